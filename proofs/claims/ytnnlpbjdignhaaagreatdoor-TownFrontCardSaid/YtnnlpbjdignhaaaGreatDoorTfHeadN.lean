import Derived.Test.YtnnlpbjdignhaaaGreatDoorTfHead
import Derived.Test.YtnnlpbjdignhaaaGreatDoorTfMark
import Derived.Test.YtnnlpbjdignhaaaGreatDoorTfQueue
namespace Go.Proofs.YtnnlpbjdignhaaaGreatDoor
open Go.Tx
set_option linter.unusedVariables false
set_option linter.unusedSimpArgs false
theorem le48 {n:Nat} (h:n≤140737488351232):n≤140737488355328:=by omega
theorem Jfl (h:JU):(QA h).1.length≤33:=by
 unfold QA;split
 ·
  simp
 ·
  rw [JcS];exact Nat.le_refl _
theorem Jbv (n:Int):(KK n).length=8:=JfV n
def KN (h:JU):Int×Int:=if (QA h).2 ≠ 0 then (0,(QA h).2) else (Jf (QA h).1,0)
def ZO (h:JU) (root at_:Int):Int:=if JD h ≠ 0 then JD h else if h.epoch=1000000 then 7 else if at_<h.at_ then 4 else JD ⟨h.epoch+1,root,(KN h).1,at_⟩
def Jx (h:JU) (root at_:Int):JU×Int:=if ZO h root at_ ≠ 0 then (WX,ZO h root at_) else (⟨h.epoch+1,root,(KN h).1,at_⟩,0)
theorem Jfm (h:JU):(QA h).2=JD h:=by unfold QA;split <;> simp_all
theorem Z7 (h:JU):(KN h).2=JD h:=by unfold KN;rw [Jfm];split <;> simp_all
theorem Jf7 (h:JU):0≤(KN h).1∧(KN h).1<2305843009213693951:=by
 unfold KN;split
 ·
  simp
 ·
  exact Qp _
theorem Jf8 {h:JU} (e:JD h=0):QA h=(YS h,0):=by unfold QA;rw [if_neg (by omega)]
theorem Jf9 {h:JU} (e:JD h=0):KN h=(Jf (YS h),0):=by
 unfold KN;rw [Jf8 e];simp
theorem VE {h:JU} {root at_:Int} (e:(Jx h root at_).2=0):JD h=0∧h.epoch<1000000∧h.at_≤at_∧Jx h root at_=(⟨h.epoch+1,root,Jf (YS h),at_⟩,0)∧JD ⟨h.epoch+1,root,Jf (YS h),at_⟩=0:=by
 unfold Jx at e ⊢
 split at e
 ·
  contradiction
 ·
  rename_i h1
  rw [if_neg h1]
  unfold ZO at h1
  by_cases e1:JD h=0
  ·
   rw [if_neg (by omega)] at h1
   have hb:=WY e1
   have hm:=Jf9 e1
   rw [hm] at h1 ⊢
   by_cases e2:h.epoch=1000000
   ·
    rw [if_pos e2] at h1;simp at h1
   ·
    rw [if_neg e2] at h1
    by_cases e3:at_<h.at_
    ·
     rw [if_pos e3] at h1;simp at h1
    ·
     rw [if_neg e3] at h1
     exact ⟨e1,by omega,by omega,rfl,by simpa using h1⟩
  ·
   rw [if_pos e1] at h1;omega
def Jga:W6:=⟨[],[],0,0⟩
def YD (key:Int) (s:List UInt8):Int:=Jf ((KK key++s)++KK key)
theorem Jkc (k:Int) (s:List UInt8):0≤YD k s∧YD k s<18446744073709551616:=by have:=Qp ((KK k++s)++KK k);unfold YD;omega
def Q3 (name value:List UInt8) (n:Int):List UInt8:=KK n++(Ym [name,value]).1
def ZJ (key:Int) (s:List UInt8) (t:Int):Bool:=decide (YD key s=t)
def WG (key:Int) (name value:List UInt8) (n:Int):W6×Int:=if K9 name value ≠ 0 then (Jga,K9 name value) else (⟨name,value,n,YD key (Q3 name value n)⟩,0)
def Zx (key:Int) (a:W6):Bool:=decide (K9 a.name a.value=0) && decide (YD key (Q3 a.name a.value a.n)=a.tag)
theorem JaN (l:List (List UInt8)):(Ym l).1.length≤600:=by
 unfold Ym
 split
 ·
  simp
 ·
  split
  ·
   rename_i h
   have:∀ (l:List (List UInt8)) (n:Nat),n≤600→Jbu n l=true→n+(JdY l).length≤600:=by
    intro l
    induction l with
    | nil=>intro n h _;simp [JdY];exact h
    | cons p l ih =>
     intro n _ h
     unfold Jbu at h
     simp only [Bool.and_eq_true,decide_eq_true_eq] at h
     have:=ih _ h.1 h.2
     have e:(JdY (p::l)).length=2+p.length+(JdY l).length:=by simp [JdY,putC];omega
     omega
   have:=this l 0 (by omega) h
   simp only;omega
  ·
   simp
theorem Jcz (a b:List UInt8) (n:Int):(Q3 a b n).length≤608:=by
 unfold Q3;rw [List.length_append,Jbv];have:=JaN [a,b];omega
theorem Jfn (G:Jt) (vs_h:List Value) (h:JU) (h_h:KA.R G vs_h h) :QE Tryz.prog 140 #[.agg vs_h.toArray] G [] (fun u G' L'=>u=.tuple #[U ((KN h).1),I ((KN h).2)]):=by
 obtain ⟨rfl,_,_,_,_⟩:=h_h
 refine JL Tryz.func140 16 [(0,.agg #[I h.epoch,U h.root,U h.prev,I h.at_])] rfl (fun w0 G0=>?_)
 refine Je (Jb ?_)
 refine Ju 1 #[I h.epoch,U h.root,U h.prev,I h.at_] 50 (fun b1=>?_)
 refine Jc [0,0] [(1,Pt b1 0)] (Jd (Ja (Je (Jb ?_))))
 refine Jc [2] [(7,.agg #[I h.epoch,U h.root,U h.prev,I h.at_])] ?_
 refine Ji 8 (.tuple #[Sr ((QA h).1),I ((QA h).2)]) (Jfd h G) ?_
 refine Jc [0,0,0,0,0] [(4,Sr ((QA h).1)),(5,I ((QA h).2))] (Jd (Ja (Je ?_)))
 refine Jg [0,0] [(4,Sr ((QA h).1)),(5,I ((QA h).2)),(12,Bo (!decide ((QA h).2=0)))] ?_
 refine Jo (!decide ((QA h).2=0)) (fun h1=>?_) (fun h1=>?_)
 try simp only [BB] at h1
 refine Jg [0,0,0] [(2,U 0),(3,I ((QA h).2))] (Jk (Jh ?_))
 refine Jl [0,0] [U 0,I ((QA h).2)] (Jv (Jt.le_refl _) ?_)
 have hf_:(KN h)=(0,((QA h).2)):=by
  unfold KN;simp_all
 · (try rw [hf_]);(simp only [JM];done)
 try simp only [BB] at h1
 refine Jm (Ja (Je (Jb ?_)))
 refine Jc [0] [(14,Sr ((QA h).1))] ?_
 refine Ji 15 (U (Jf ((QA h).1))) (Zm ((QA h).1) (le48 (Nat.le_trans (Jfl h) (by decide))) G) ?_
 refine Jc [0,0] [(2,U (Jf ((QA h).1))),(3,I 0)] (Jd (Ja (Jk ?_)))
 refine Jl [0,0] [U (Jf ((QA h).1)),I 0] (Jv (Jt.le_refl _) ?_)
 have hf_:(KN h)=((Jf ((QA h).1)),0):=by
  unfold KN;simp_all
 · (try rw [hf_]);(simp only [JM];done)
theorem V3 (G:Jt) (vs_h:List Value) (h:JU) (h_h:KA.R G vs_h h) (root:Int) (hw_root:rU root) (a:Int) (hw_a:rI a) :QE Tryz.prog 103 #[.agg vs_h.toArray,U root,I a] G [] (fun u G' L'=>u=.tuple #[.agg #[I (((Jx h root a).1).epoch),U (((Jx h root a).1).root),U (((Jx h root a).1).prev),I (((Jx h root a).1).at_)],I ((Jx h root a).2)]):=by
 obtain ⟨rfl,w1,w2,w3,w4⟩:=h_h
 refine JL Tryz.func103 46 [(0,.agg #[I h.epoch,U h.root,U h.prev,I h.at_]),(1,U root),(2,I a)] rfl (fun w0 G0=>?_)
 refine Je (Jb ?_)
 refine Ju 3 #[I h.epoch,U h.root,U h.prev,I h.at_] 50 (fun b1=>?_)
 refine Ju 6 #[I 0,U 0,U 0,I 0] 50 (fun b2=>?_)
 refine Jc [0] [(1,U root),(2,I a),(3,Pt b1 0),(6,Pt b2 0)] (Jd (Ja (Je (Jb ?_))))
 refine Jc [4] [(1,U root),(2,I a),(3,Pt b1 0),(6,Pt b2 0),(13,.agg #[I h.epoch,U h.root,U h.prev,I h.at_])] ?_
 refine Ji 14 (.tuple #[U ((KN h).1),I ((KN h).2)]) (Jfn G [I h.epoch,U h.root,U h.prev,I h.at_] h (⟨rfl,w1,w2,w3,w4⟩)) ?_
 refine Jc [0,0,0,0,0] [(1,U root),(2,I a),(3,Pt b1 0),(6,Pt b2 0),(8,U ((KN h).1)),(9,I ((KN h).2))] (Jd (Ja (Je (Jy ?_))))
 refine Jg [0,0,0] [(1,U root),(2,I a),(3,Pt b1 0),(6,Pt b2 0),(8,U ((KN h).1)),(9,I ((KN h).2)),(17,Bo (!decide ((KN h).2=0)))] ?_
 refine Jo (!decide ((KN h).2=0)) (fun h1=>?_) (fun h1=>?_)
 try simp only [BB] at h1
 refine Jg [0,0,3,0] [(6,Pt b2 0),(7,I ((KN h).2))] (Jk (Js (Jh ?_)))
 refine Jl [0,0] [.agg #[I 0,U 0,U 0,I 0],I ((KN h).2)] (Jv (Jt.le_refl _) ?_)
 have hf_:(Jx h root a)=((⟨0,0,0,0⟩:JU),((KN h).2)):=by
  (try rw [Z7] at *);unfold Jx ZO WX;grind
 · (try rw [hf_]);(simp only [JM];done)
 try simp only [BB] at h1
 refine Jg [0,4,0,0] [(1,U root),(2,I a),(3,Pt b1 0),(6,Pt b2 0),(8,U ((KN h).1)),(22,Bo (decide (h.epoch=1000000)))] ?_
 refine Jo (decide (h.epoch=1000000)) (fun h2=>?_) (fun h2=>?_)
 try simp only [BB] at h2
 refine Jg [0,3,0] [(6,Pt b2 0),(7,I 7)] (Jk (Js (Jh ?_)))
 refine Jl [0,0] [.agg #[I 0,U 0,U 0,I 0],I 7] (Jv (Jt.le_refl _) ?_)
 have hf_:(Jx h root a)=((⟨0,0,0,0⟩:JU),7):=by
  (try rw [Z7] at *);unfold Jx ZO WX;grind
 · (try rw [hf_]);(simp only [JM];done)
 try simp only [BB] at h2
 refine Jm (JK (Ja (Je (Jb ?_))))
 refine Jc [0,4,0,0,0,0,0] [(2,I a),(3,Pt b1 0),(6,Pt b2 0),(33,.agg #[I (IntKind.i64.wrap (h.epoch+1)),U root,U ((KN h).1),I a])] ?_
 have e1:IntKind.i64.wrap (h.epoch+1)=h.epoch+1:=IntWalk.i64_in _ (by have:=WY (h:=h) (by rw [← Z7];assumption);omega)
 refine J2 (fr':=[(2,I a),(3,Pt b1 0),(6,Pt b2 0),(33,.agg #[I (h.epoch+1),U root,U ((KN h).1),I a])]) (L':=[[Sg b2 0 [I 0,U 0,U 0,I 0]],[Sg b1 0 [I h.epoch,U h.root,U h.prev,I h.at_]]]) (by simp only [e1]) (by rfl) ?_
 clear e1
 refine Ju 10 #[I 0,U 0,U 0,I 0] 50 (fun b3=>?_)
 refine Kb [3] [(2,I a),(3,Pt b1 0),(6,Pt b2 0),(10,Pt b3 0)] [[Sg b3 0 [I (h.epoch+1),U root,U ((KN h).1),I a]],[Sg b2 0 [I 0,U 0,U 0,I 0]],[Sg b1 0 [I h.epoch,U h.root,U h.prev,I h.at_]]] (Jd (Ja (Je ?_)))
 refine Jg [0,0,6,0] [(6,Pt b2 0),(10,Pt b3 0),(37,Bo (decide (a<h.at_)))] ?_
 refine Jo (decide (a<h.at_)) (fun h3=>?_) (fun h3=>?_)
 try simp only [BB] at h3
 refine Jg [0,5,0] [(6,Pt b2 0),(7,I 4)] (Jk (Jh ?_))
 refine Jl [1,0] [.agg #[I 0,U 0,U 0,I 0],I 4] (Jv (Jt.le_refl _) ?_)
 have hf_:(Jx h root a)=((⟨0,0,0,0⟩:JU),4):=by
  (try rw [Z7] at *);unfold Jx ZO WX;grind
 · (try rw [hf_]);(simp only [JM];done)
 try simp only [BB] at h3
 refine Jm (Ja (Je (Je (Jb ?_))))
 refine Jc [2] [(6,Pt b2 0),(10,Pt b3 0),(39,.agg #[I (h.epoch+1),U root,U ((KN h).1),I a])] ?_
 refine Ji 40 (I (JD (⟨h.epoch+1,root,(KN h).1,a⟩:JU))) (Zl (⟨h.epoch+1,root,(KN h).1,a⟩:JU) G) ?_
 refine Jc [0] [(6,Pt b2 0),(10,Pt b3 0),(11,I (JD (⟨h.epoch+1,root,(KN h).1,a⟩:JU)))] (Jd (Ja ?_))
 refine Jg [0,0] [(6,Pt b2 0),(10,Pt b3 0),(11,I (JD (⟨h.epoch+1,root,(KN h).1,a⟩:JU))),(42,Bo (!decide (JD (⟨h.epoch+1,root,(KN h).1,a⟩:JU)=0)))] ?_
 refine Jo (!decide (JD (⟨h.epoch+1,root,(KN h).1,a⟩:JU)=0)) (fun h4=>?_) (fun h4=>?_)
 try simp only [BB] at h4
 refine Jg [0,0,5,0] [(6,Pt b2 0),(7,I (JD (⟨h.epoch+1,root,(KN h).1,a⟩:JU)))] (Jk (Jh ?_))
 refine Jl [1,0] [.agg #[I 0,U 0,U 0,I 0],I (JD (⟨h.epoch+1,root,(KN h).1,a⟩:JU))] (Jv (Jt.le_refl _) ?_)
 have hf_:(Jx h root a)=((⟨0,0,0,0⟩:JU),(JD (⟨h.epoch+1,root,(KN h).1,a⟩:JU))):=by
  (try rw [Z7] at *);unfold Jx ZO WX;grind
 · (try rw [hf_]);(simp only [JM];done)
 try simp only [BB] at h4
 refine Jm (Ja ?_)
 refine WC [2,5,0] [(6,Pt b2 0),(7,I 0)] [[Sg b3 0 [I (h.epoch+1),U root,U ((KN h).1),I a]],[Sg b2 0 [I (h.epoch+1),U root,U ((KN h).1),I a]],[Sg b1 0 [I h.epoch,U h.root,U h.prev,I h.at_]]] ?_
 refine Jk ?_
 refine Jl [1,0] [.agg #[I (h.epoch+1),U root,U ((KN h).1),I a],I 0] (Jv (Jt.le_refl _) ?_)
 have hf_:(Jx h root a)=((⟨h.epoch+1,root,(KN h).1,a⟩:JU),0):=by
  (try rw [Z7] at *);unfold Jx ZO WX;grind
 · (try rw [hf_]);(simp only [JM];done)
theorem V4 (G:Jt) (name:List UInt8) (value:List UInt8) :QE Tryz.prog 145 #[Sr name,Sr value] G [] (fun u G' L'=>u=I (K9 name value)):=by
 refine JL Tryz.func145 13 [(0,Sr name),(1,Sr value)] rfl (fun w0 G0=>?_)
 refine Jg [0] [(0,Sr name),(1,Sr value)] (Je (Jy (Je (Jb ?_))))
 refine Jc [0] [(1,Sr value),(6,Sr name)] ?_
 refine Ji 7 (Bo (KD name)) (Zd G name) ?_
 refine Jc [0,0] [(1,Sr value),(5,Bo (!(KD name)))] (Jd (Ja ?_))
 refine Jo (!(KD name)) (fun h1=>?_) (fun h1=>?_)
 try simp only [BB] at h1
 refine Jg [0] [(4,I 3)] (Jk (Js (Jh ?_)))
 refine Jl [0] [I 3] (Jv (Jt.le_refl _) ?_)
 have hf_:(K9 name value)=3:=by
  unfold K9;simp_all;try omega
 · (try rw [hf_]);(simp only [JM];done)
 try simp only [BB] at h1
 refine Jg [0,0,0,0] [(9,Bo (decide (((value).length:Int) > 20)))] ?_
 refine Jo (decide (((value).length:Int) > 20)) (fun h2=>?_) (fun h2=>?_)
 try simp only [BB] at h2
 refine Jg [0] [(4,I 2)] (Jk (Js (Jh ?_)))
 refine Jl [0] [I 2] (Jv (Jt.le_refl _) ?_)
 have hf_:(K9 name value)=2:=by
  unfold K9;simp_all;try omega
 · (try rw [hf_]);(simp only [JM];done)
 try simp only [BB] at h2
 refine Jm (JK (Ja ?_))
 refine Jg [0] [(4,I 0)] (Jk ?_)
 refine Jl [0] [I 0] (Jv (Jt.le_refl _) ?_)
 have hf_:(K9 name value)=0:=by
  unfold K9;simp_all;try omega
 · (try rw [hf_]);(simp only [JM];done)
theorem JeI (G:Jt) (key:Int) (s:List UInt8) (hs:s.length≤1000000):QE Tryz.prog 177 #[U key,Sr s] G [] (fun u G' L'=>u=U (YD key s)):=by
 refine JL Tryz.func177 13 [(0,U key),(1,Sr s)] rfl (fun w0 G0=>?_)
 refine Jg [0] [(0,U key),(1,Sr s)] (Je (Jb ?_))
 refine Jc [0] [(0,U key),(1,Sr s),(5,U key)] ?_
 refine Ji 6 (Sr (KK key)) (ZG key G) ?_
 refine Jc [0] [(0,U key),(6,Sr (KK key)),(7,Sr s)] ?_
 refine Zr 8 (KK key) s (by simp only [List.length_append,Jbv];omega) ?_
 refine Jc [0] [(8,Sr ((KK key)++s)),(9,U key)] ?_
 refine Ji 10 (Sr (KK key)) (ZG key G) ?_
 refine Zr 11 ((KK key)++s) (KK key) (by simp only [List.length_append,Jbv];omega) ?_
 refine Ji 12 (U (Jf (((KK key)++s)++(KK key)))) (Zm (((KK key)++s)++(KK key)) (le48 (by (simp;omega))) G) ?_
 refine Jc [0] [(4,U (Jf (((KK key)++s)++(KK key))))] (Jd (Ja (Jk ?_)))
 refine Jl [0] [U (Jf (((KK key)++s)++(KK key)))] (Jv (Jt.le_refl _) ?_)
 have hf_:(YD key s)=(Jf (((KK key)++s)++(KK key))):=by
  rfl
 · (try rw [hf_]);(simp only [JM];done)
theorem Jfo (G:Jt) (key:Int) (s:List UInt8) (t:Int) (hs:s.length≤1000000):QE Tryz.prog 146 #[U key,Sr s,U t] G [] (fun u G' L'=>u=Bo (ZJ key s t)):=by
 refine JL Tryz.func146 12 [(0,U key),(1,Sr s),(2,U t)] rfl (fun w0 G0=>?_)
 refine Jg [0] [(0,U key),(1,Sr s),(2,U t)] (Je (Jb ?_))
 refine Jc [0,0] [(2,U t),(7,U key),(8,Sr s)] ?_
 refine Ji 9 (U (YD key s)) (JeI G key s ‹_›) ?_
 refine Jc [0,0,0] [(6,Bo (decide (YD key s=t)))] (Jd (Ja (Jk ?_)))
 refine Jl [0] [Bo (decide (YD key s=t))] (Jv (Jt.le_refl _) ?_)
 have hf_:(ZJ key s t)=(decide (YD key s=t)):=by
  rfl
 · (try rw [hf_]);(simp only [JM];done)
theorem JcA (G:Jt) (name:List UInt8) (hw_name:(name).length≤140737488351232) (value:List UInt8) (hw_value:(value).length≤140737488351232) (n:Int) :QE Tryz.prog 147 #[Sr name,Sr value,U n] G [] (fun u G' L'=>u=Sr (Q3 name value n)):=by
 refine JL Tryz.func147 20 [(0,Sr name),(1,Sr value),(2,U n)] rfl (fun w0 G0=>?_)
 refine Jg [0] [(0,Sr name),(1,Sr value),(2,U n)] (Je (Jb ?_))
 refine Jc [0,0] [(2,U n),(10,Sr name),(11,Sr value)] ?_
 refine KC 12 2 #[Sr name,Sr value] 9 (fun b1=>?_)
 refine QJ (b:=b1) (o:=0) (cs:=[Sr name,Sr value]) 0 (fun G1 hl1 hz1=>?_)
 have hs1:RS ES G1 (At b1 0) 2 [name,value]:=RS.lit [[Sr name],[Sr value]] [name,value] ⟨⟨rfl,hw_name⟩,⟨⟨rfl,hw_value⟩,trivial⟩⟩ hz1 (Nat.le_of_ble_eq_true rfl) (Nat.le_of_ble_eq_true rfl)
 refine Ji 13 (.tuple #[Sr ((Ym ([name,value])).1),I ((Ym ([name,value])).2)]) (Jf4 G1 (At b1 0) 2 ([name,value]) hs1) ?_
 refine Jc [0,0,0,0,0] [(2,U n),(7,Sr ((Ym ([name,value])).1))] (Jd (Ja (Je (Jb ?_))))
 refine Jc [0] [(7,Sr ((Ym ([name,value])).1)),(16,U n)] ?_
 refine Ji 17 (Sr (KK n)) (ZG n G1) ?_
 refine Jc [0] [(17,Sr (KK n)),(18,Sr ((Ym ([name,value])).1))] ?_
 refine Zr 19 (KK n) ((Ym ([name,value])).1) (by have:=JaN [name,value];simp only [Jbv];omega) ?_
 refine Jc [0] [(6,Sr ((KK n)++((Ym ([name,value])).1)))] (Jd (Ja (Jk ?_)))
 refine Jl [0] [Sr ((KK n)++((Ym ([name,value])).1))] (Jv hl1 ?_)
 have hf_:(Q3 name value n)=(KK n)++((Ym ([name,value])).1):=by
  rfl
 · (try rw [hf_]);(simp only [JM];done)
theorem Jhe (G:Jt) (key:Int) (name:List UInt8) (hw_name:(name).length≤140737488351232) (value:List UInt8) (hw_value:(value).length≤140737488351232) (n:Int) (hw_n:rU n) :QE Tryz.prog 143 #[U key,Sr name,Sr value,U n] G [] (fun u G' L'=>u=.tuple #[.agg #[Sr (((WG key name value n).1).name),Sr (((WG key name value n).1).value),U (((WG key name value n).1).n),U (((WG key name value n).1).tag)],I ((WG key name value n).2)]∧((((WG key name value n).1).name).length≤140737488351232)∧((((WG key name value n).1).value).length≤140737488351232)∧(rU (((WG key name value n).1).n))∧(rU (((WG key name value n).1).tag))∧L'=[]):=by
 refine JL Tryz.func143 28 [(0,U key),(1,Sr name),(2,Sr value),(3,U n)] rfl (fun w0 G0=>?_)
 refine Je (Jb ?_)
 refine Ju 8 #[Sr ([]),Sr ([]),U 0,U 0] 83 (fun b1=>?_)
 refine Jc [0] [(0,U key),(1,Sr name),(2,Sr value),(3,U n),(8,Pt b1 0)] (Jd (Ja (Je (Je (Jb ?_)))))
 refine Jc [0,0] [(0,U key),(1,Sr name),(2,Sr value),(3,U n),(8,Pt b1 0),(11,Sr name),(12,Sr value)] ?_
 refine Ji 13 (I (K9 name value)) (V4 G name value) ?_
 refine Jc [0] [(0,U key),(1,Sr name),(2,Sr value),(3,U n),(8,Pt b1 0),(10,I (K9 name value))] (Jd (Ja ?_))
 refine Jg [0,0] [(0,U key),(1,Sr name),(2,Sr value),(3,U n),(8,Pt b1 0),(10,I (K9 name value)),(15,Bo (!decide (K9 name value=0)))] ?_
 refine Jo (!decide (K9 name value=0)) (fun h1=>?_) (fun h1=>?_)
 try simp only [BB] at h1
 refine Jg [0,0,3,0] [(8,Pt b1 0),(9,I (K9 name value))] (Jk (Jh ?_))
 have hf1:WG key name value n=((⟨[],[],0,0⟩:W6),K9 name value):=by
  unfold WG Jga;simp_all
 refine Jl [0,0] [.agg #[Sr ([]),Sr ([]),U 0,U 0],I (K9 name value)] (JY [] (.cons _ .slnil) (Jt.le_refl _) ?_)
 rw [hf1]
 try dsimp only
 exact ⟨rfl,(Nat.le_of_ble_eq_true rfl),(Nat.le_of_ble_eq_true rfl),(by omega),(by omega),rfl⟩
 try simp only [BB] at h1
 refine Jm (Ja (Je (Jb ?_)))
 refine Jc [0,0,0,0,0,0,0] [(8,Pt b1 0),(18,Sr name),(19,Sr value),(20,U n),(21,U key),(22,Sr name),(23,Sr value),(24,U n)] ?_
 refine Ji 25 (Sr (Q3 name value n)) (JcA G name hw_name value hw_value n) ?_
 refine Ji 26 (U (YD key (Q3 name value n))) (JeI G key (Q3 name value n) (Nat.le_trans (Jcz name value n) (by decide))) ?_
 refine Kb [0,3,0] [(8,Pt b1 0),(9,I 0)] [[Sg b1 0 [Sr name,Sr value,U n,U (YD key (Q3 name value n))]]] (Jd (Ja (Jk ?_)))
 have hf2:WG key name value n=((⟨name,value,n,YD key (Q3 name value n)⟩:W6),0):=by
  unfold WG Jga;simp_all
 refine Jl [0,0] [.agg #[Sr name,Sr value,U n,U (YD key (Q3 name value n))],I 0] (JY [] (.cons _ .slnil) (Jt.le_refl _) ?_)
 rw [hf2]
 try dsimp only
 exact ⟨rfl,hw_name,hw_value,hw_n,(Jkc _ _),rfl⟩
theorem Jfp (G:Jt) (key:Int) (vs_a:List Value) (a:W6) (h_a:QO.R G vs_a a) :QE Tryz.prog 108 #[U key,.agg vs_a.toArray] G [] (fun u G' L'=>u=Bo (Zx key a)):=by
 obtain ⟨rfl,w1,w2,_,_⟩:=h_a
 refine JL Tryz.func108 24 [(0,U key),(1,.agg #[Sr a.name,Sr a.value,U a.n,U a.tag])] rfl (fun w0 G0=>?_)
 refine Je (Jb ?_)
 refine Ju 3 #[Sr a.name,Sr a.value,U a.n,U a.tag] 83 (fun b1=>?_)
 refine Jc [0] [(0,U key),(3,Pt b1 0)] (Jd (Ja (Je ?_)))
 rcases Bool.eq_false_or_eq_true (decide (K9 a.name a.value=0)) with h1 | h1
 have h1d:=h1
 try simp only [BB] at h1d
 refine Kw [] ?_
 refine Wa [(0,Pt b1 0),(1,Sr a.name),(2,Pt b1 1),(3,Sr a.value),(4,I (K9 a.name a.value)),(5,Bo true),(6,Bo true),(7,U key),(8,Pt b1 0),(9,Sr a.name),(10,Pt b1 1),(11,Sr a.value),(12,Pt b1 2),(13,U a.n),(14,Sr (Q3 a.name a.value a.n)),(15,Pt b1 3),(16,U a.tag),(17,Bo (ZJ key (Q3 a.name a.value a.n) a.tag)),(18,Bo (ZJ key (Q3 a.name a.value a.n) a.tag)),(19,Bo (ZJ key (Q3 a.name a.value a.n) a.tag))] ?_
 refine Kv [] [(0,0),(1,2),(2,0),(3,2),(6,0),(7,0),(8,0),(9,2),(10,0),(11,2),(12,0),(13,2),(15,0),(16,2),(18,0),(19,0)] [4,5,14,17] [(4,Bo (ZJ key (Q3 a.name a.value a.n) a.tag))] (List.forall_mem_cons.2 ⟨?_,(List.forall_mem_cons.2 ⟨?_,(List.forall_mem_cons.2 ⟨?_,(List.forall_mem_cons.2 ⟨?_,List.forall_mem_nil _⟩)⟩)⟩)⟩) ?_
 refine Jq 4 9 (I (K9 a.name a.value)) [(6,Sr a.name),(8,Sr a.value)] (fun X=>?_)
 exact Ji 9 (I (K9 a.name a.value)) (V4 G a.name a.value) Jn
 refine Jq 5 10 (Bo true) [(9,I (K9 a.name a.value))] (fun X=>?_)
 exact KZ 10 (Bo (decide (K9 a.name a.value=0))) (Bo true) (by rw [h1]) Jn
 refine Jq 14 19 (Sr (Q3 a.name a.value a.n)) [(11,Bo true),(14,Sr a.name),(16,Sr a.value),(18,U a.n)] (fun X=>?_)
 exact Ji 19 (Sr (Q3 a.name a.value a.n)) (JcA G a.name w1 a.value w2 a.n) Jn
 refine Jq 17 22 (Bo (ZJ key (Q3 a.name a.value a.n) a.tag)) [(11,Bo true),(12,U key),(19,Sr (Q3 a.name a.value a.n)),(21,U a.tag)] (fun X=>?_)
 exact Ji 22 (Bo (ZJ key (Q3 a.name a.value a.n) a.tag)) (Jfo G key (Q3 a.name a.value a.n) a.tag (Nat.le_trans (Jcz a.name a.value a.n) (by decide))) Jn
 refine Ja (Jk ?_)
 refine Jl [0] [Bo (ZJ key (Q3 a.name a.value a.n) a.tag)] (Jv (Jt.le_refl _) ?_)
 have hf_:(Zx key a)=(ZJ key (Q3 a.name a.value a.n) a.tag):=by
  unfold Zx;simp_all [ZJ]
 · (try rw [hf_]);(simp only [JM];done)
 have h1d:=h1
 try simp only [BB] at h1d
 refine Kw [] ?_
 refine Wa [(0,Pt b1 0),(1,Sr a.name),(2,Pt b1 1),(3,Sr a.value),(4,I (K9 a.name a.value)),(5,Bo false),(6,Bo false),(7,undef),(8,undef),(9,undef),(10,undef),(11,undef),(12,undef),(13,undef),(14,undef),(15,undef),(16,undef),(17,undef),(18,Bo false),(19,Bo false)] ?_
 refine Kv [] [(0,0),(1,2),(2,0),(3,2),(6,0),(7,1),(8,1),(9,1),(10,1),(11,1),(12,1),(13,1),(14,1),(15,1),(16,1),(17,1),(18,0),(19,0)] [4,5] [(4,Bo false)] (List.forall_mem_cons.2 ⟨?_,(List.forall_mem_cons.2 ⟨?_,List.forall_mem_nil _⟩)⟩) ?_
 refine Jq 4 9 (I (K9 a.name a.value)) [(6,Sr a.name),(8,Sr a.value)] (fun X=>?_)
 exact Ji 9 (I (K9 a.name a.value)) (V4 G a.name a.value) Jn
 refine Jq 5 10 (Bo false) [(9,I (K9 a.name a.value))] (fun X=>?_)
 exact KZ 10 (Bo (decide (K9 a.name a.value=0))) (Bo false) (by rw [h1]) Jn
 refine Ja (Jk ?_)
 refine Jl [0] [Bo false] (Jv (Jt.le_refl _) ?_)
 have hf_:(Zx key a)=false:=by
  unfold Zx;simp_all [ZJ]
 · (try rw [hf_]);(simp only [JM];done)
end Go.Proofs.YtnnlpbjdignhaaaGreatDoor
