import Derived.Test.YtnnlpbjdignhaaaGreatDoorTcHead
import Derived.Test.YtnnlpbjdignhaaaGreatDoorTcMark
import Derived.Test.YtnnlpbjdignhaaaGreatDoorTcQueue
namespace Go.Proofs.YtnnlpbjdignhaaaGreatDoor
open Go.Tx
set_option linter.unusedVariables false
set_option linter.unusedSimpArgs false
theorem le48 {n:Nat} (h:n≤140737488351232):n≤140737488355328:=by omega
theorem JfT (h:JR):(QI h).1.length≤33:=by
 unfold QI;split
 ·
  simp
 ·
  rw [Jdk];exact Nat.le_refl _
theorem JbV (n:Int):(KS n).length=8:=JgC n
def KV (h:JR):Int×Int:=if (QI h).2 ≠ 0 then (0,(QI h).2) else (Jf (QI h).1,0)
def ZV (h:JR) (root at_:Int):Int:=if JD h ≠ 0 then JD h else if h.epoch=1000000 then 7 else if at_<h.at_ then 4 else JD ⟨h.epoch+1,root,(KV h).1,at_⟩
def Jy (h:JR) (root at_:Int):JR×Int:=if ZV h root at_ ≠ 0 then (WY,ZV h root at_) else (⟨h.epoch+1,root,(KV h).1,at_⟩,0)
theorem JfU (h:JR):(QI h).2=JD h:=by unfold QI;split <;> simp_all
theorem Yi (h:JR):(KV h).2=JD h:=by unfold KV;rw [JfU];split <;> simp_all
theorem JgP (h:JR):0≤(KV h).1∧(KV h).1<2305843009213693951:=by
 unfold KV;split
 ·
  simp
 ·
  exact Qy _
theorem JgQ {h:JR} (e:JD h=0):QI h=(Y8 h,0):=by unfold QI;rw [if_neg (by omega)]
theorem JgR {h:JR} (e:JD h=0):KV h=(Jf (Y8 h),0):=by
 unfold KV;rw [JgQ e];simp
theorem VW {h:JR} {root at_:Int} (e:(Jy h root at_).2=0):JD h=0∧h.epoch<1000000∧h.at_≤at_∧Jy h root at_=(⟨h.epoch+1,root,Jf (Y8 h),at_⟩,0)∧JD ⟨h.epoch+1,root,Jf (Y8 h),at_⟩=0:=by
 unfold Jy at e ⊢
 split at e
 ·
  contradiction
 ·
  rename_i h1
  rw [if_neg h1]
  unfold ZV at h1
  by_cases e1:JD h=0
  ·
   rw [if_neg (by omega)] at h1
   have hb:=W6 e1
   have hm:=JgR e1
   rw [hm] at h1 ⊢
   by_cases e2:h.epoch=1000000
   ·
    rw [if_pos e2] at h1;simp at h1
   ·
    rw [if_neg e2] at h1
    by_cases e3:at_<h.at_
    ·
     rw [if_pos e3] at h1;simp at h1
    ·
     rw [if_neg e3] at h1
     exact ⟨e1,by omega,by omega,rfl,by simpa using h1⟩
  ·
   rw [if_pos e1] at h1;omega
def JgS:WT:=⟨[],[],0,0⟩
def YO (key:Int) (s:List UInt8):Int:=Jf ((KS key++s)++KS key)
theorem Jk5 (k:Int) (s:List UInt8):0≤YO k s∧YO k s<18446744073709551616:=by have:=Qy ((KS k++s)++KS k);unfold YO;omega
def Q9 (name value:List UInt8) (n:Int):List UInt8:=KS n++(Yw [name,value]).1
def ZQ (key:Int) (s:List UInt8) (t:Int):Bool:=decide (YO key s=t)
def WQ (key:Int) (name value:List UInt8) (n:Int):WT×Int:=if Qh name value ≠ 0 then (JgS,Qh name value) else (⟨name,value,n,YO key (Q9 name value n)⟩,0)
def ZH (key:Int) (a:WT):Bool:=decide (Qh a.name a.value=0) && decide (YO key (Q9 a.name a.value a.n)=a.tag)
theorem Jbg (l:List (List UInt8)):(Yw l).1.length≤600:=by
 unfold Yw
 split
 ·
  simp
 ·
  split
  ·
   rename_i h
   have:∀ (l:List (List UInt8)) (n:Nat),n≤600→JbU n l=true→n+(Jes l).length≤600:=by
    intro l
    induction l with
    | nil=>intro n h _;simp [Jes];exact h
    | cons p l ih =>
     intro n _ h
     unfold JbU at h
     simp only [Bool.and_eq_true,decide_eq_true_eq] at h
     have:=ih _ h.1 h.2
     have e:(Jes (p::l)).length=2+p.length+(Jes l).length:=by simp [Jes,putC];omega
     omega
   have:=this l 0 (by omega) h
   simp only;omega
  ·
   simp
theorem JcY (a b:List UInt8) (n:Int):(Q9 a b n).length≤608:=by
 unfold Q9;rw [List.length_append,JbV];have:=Jbg [a,b];omega
theorem JfV (G:Jt) (vs_h:List Value) (h:JR) (h_h:KE.R G vs_h h) :QF Tryz.prog 140 #[.agg vs_h.toArray] G [] (fun u G' L'=>u=.tuple #[U ((KV h).1),I ((KV h).2)]):=by
 obtain ⟨rfl,_,_,_,_⟩:=h_h
 refine JJ Tryz.func140 16 [(0,.agg #[I h.epoch,U h.root,U h.prev,I h.at_])] rfl (fun w0 G0=>?_)
 refine Je (Jb (Ju 1 #[I h.epoch,U h.root,U h.prev,I h.at_] 50 (fun b1=>Jd [0,0] [(1,Pt b1 0)] (Jc (Ja (Je (Jb (Jd [2] [(7,.agg #[I h.epoch,U h.root,U h.prev,I h.at_])] (Ji 8 (.tuple #[Sr ((QI h).1),I ((QI h).2)]) (JfK h G) (Jd [0,0,0,0,0] [(4,Sr ((QI h).1)),(5,I ((QI h).2))] (Jc (Ja (Je (Jg [0,0] [(4,Sr ((QI h).1)),(5,I ((QI h).2)),(12,Bo (!decide ((QI h).2=0)))] (Jo (!decide ((QI h).2=0)) (fun h1=>?_) (fun h1=>?_))))))))))))))))
 try simp only [BB] at h1
 refine Jg [0,0,0] [(2,U 0),(3,I ((QI h).2))] (Jk (Jh (Jl [0,0] [U 0,I ((QI h).2)] (Jv (Jt.le_refl _) ?_))))
 have hf_:(KV h)=(0,((QI h).2)):=by
  unfold KV;simp_all
 · (try rw [hf_]);(simp only [JL];done)
 try simp only [BB] at h1
 refine Jm (Ja (Je (Jb (Jd [0] [(14,Sr ((QI h).1))] (Ji 15 (U (Jf ((QI h).1))) (Zw ((QI h).1) (le48 (Nat.le_trans (JfT h) (by decide))) G) (Jd [0,0] [(2,U (Jf ((QI h).1))),(3,I 0)] (Jc (Ja (Jk (Jl [0,0] [U (Jf ((QI h).1)),I 0] (Jv (Jt.le_refl _) ?_)))))))))))
 have hf_:(KV h)=((Jf ((QI h).1)),0):=by
  unfold KV;simp_all
 · (try rw [hf_]);(simp only [JL];done)
theorem Jas (G:Jt) (vs_h:List Value) (h:JR) (h_h:KE.R G vs_h h) (root:Int) (hw_root:rU root) (a:Int) (hw_a:rI a) :QF Tryz.prog 103 #[.agg vs_h.toArray,U root,I a] G [] (fun u G' L'=>u=.tuple #[.agg #[I (((Jy h root a).1).epoch),U (((Jy h root a).1).root),U (((Jy h root a).1).prev),I (((Jy h root a).1).at_)],I ((Jy h root a).2)]):=by
 obtain ⟨rfl,w1,w2,w3,w4⟩:=h_h
 refine JJ Tryz.func103 46 [(0,.agg #[I h.epoch,U h.root,U h.prev,I h.at_]),(1,U root),(2,I a)] rfl (fun w0 G0=>?_)
 refine Je (Jb (Ju 3 #[I h.epoch,U h.root,U h.prev,I h.at_] 50 (fun b1=>Ju 6 #[I 0,U 0,U 0,I 0] 50 (fun b2=>Jd [0] [(1,U root),(2,I a),(3,Pt b1 0),(6,Pt b2 0)] (Jc (Ja (Je (Jb (Jd [4] [(1,U root),(2,I a),(3,Pt b1 0),(6,Pt b2 0),(13,.agg #[I h.epoch,U h.root,U h.prev,I h.at_])] (Ji 14 (.tuple #[U ((KV h).1),I ((KV h).2)]) (JfV G [I h.epoch,U h.root,U h.prev,I h.at_] h (⟨rfl,w1,w2,w3,w4⟩)) (Jd [0,0,0,0,0] [(1,U root),(2,I a),(3,Pt b1 0),(6,Pt b2 0),(8,U ((KV h).1)),(9,I ((KV h).2))] (Jc (Ja (Je (Jz (Jg [0,0,0] [(1,U root),(2,I a),(3,Pt b1 0),(6,Pt b2 0),(8,U ((KV h).1)),(9,I ((KV h).2)),(17,Bo (!decide ((KV h).2=0)))] (Jo (!decide ((KV h).2=0)) (fun h1=>?_) (fun h1=>?_))))))))))))))))))
 try simp only [BB] at h1
 refine Jg [0,0,3,0] [(6,Pt b2 0),(7,I ((KV h).2))] (Jk (Js (Jh (Jl [0,0] [.agg #[I 0,U 0,U 0,I 0],I ((KV h).2)] (Jv (Jt.le_refl _) ?_)))))
 have hf_:(Jy h root a)=((⟨0,0,0,0⟩:JR),((KV h).2)):=by
  (try rw [Yi] at *);unfold Jy ZV WY;grind
 · (try rw [hf_]);(simp only [JL];done)
 try simp only [BB] at h1
 refine Jg [0,4,0,0] [(1,U root),(2,I a),(3,Pt b1 0),(6,Pt b2 0),(8,U ((KV h).1)),(22,Bo (decide (h.epoch=1000000)))] (Jo (decide (h.epoch=1000000)) (fun h2=>?_) (fun h2=>?_))
 try simp only [BB] at h2
 refine Jg [0,3,0] [(6,Pt b2 0),(7,I 7)] (Jk (Js (Jh (Jl [0,0] [.agg #[I 0,U 0,U 0,I 0],I 7] (Jv (Jt.le_refl _) ?_)))))
 have hf_:(Jy h root a)=((⟨0,0,0,0⟩:JR),7):=by
  (try rw [Yi] at *);unfold Jy ZV WY;grind
 · (try rw [hf_]);(simp only [JL];done)
 try simp only [BB] at h2
 refine Jm (JM (Ja (Je (Jb (Jd [0,4,0,0,0,0,0] [(2,I a),(3,Pt b1 0),(6,Pt b2 0),(33,.agg #[I (IntKind.i64.wrap (h.epoch+1)),U root,U ((KV h).1),I a])] ?_)))))
 have e1:IntKind.i64.wrap (h.epoch+1)=h.epoch+1:=IntWalk.i64_in _ (by have:=W6 (h:=h) (by rw [← Yi];assumption);omega)
 refine J3 (fr':=[(2,I a),(3,Pt b1 0),(6,Pt b2 0),(33,.agg #[I (h.epoch+1),U root,U ((KV h).1),I a])]) (L':=[[Sg b2 0 [I 0,U 0,U 0,I 0]],[Sg b1 0 [I h.epoch,U h.root,U h.prev,I h.at_]]]) (by simp only [e1]) (by rfl) ?_
 clear e1
 refine Ju 10 #[I 0,U 0,U 0,I 0] 50 (fun b3=>Kd [3] [(2,I a),(3,Pt b1 0),(6,Pt b2 0),(10,Pt b3 0)] [[Sg b3 0 [I (h.epoch+1),U root,U ((KV h).1),I a]],[Sg b2 0 [I 0,U 0,U 0,I 0]],[Sg b1 0 [I h.epoch,U h.root,U h.prev,I h.at_]]] (Jc (Ja (Je (Jg [0,0,6,0] [(6,Pt b2 0),(10,Pt b3 0),(37,Bo (decide (a<h.at_)))] (Jo (decide (a<h.at_)) (fun h3=>?_) (fun h3=>?_)))))))
 try simp only [BB] at h3
 refine Jg [0,5,0] [(6,Pt b2 0),(7,I 4)] (Jk (Jh (Jl [1,0] [.agg #[I 0,U 0,U 0,I 0],I 4] (Jv (Jt.le_refl _) ?_))))
 have hf_:(Jy h root a)=((⟨0,0,0,0⟩:JR),4):=by
  (try rw [Yi] at *);unfold Jy ZV WY;grind
 · (try rw [hf_]);(simp only [JL];done)
 try simp only [BB] at h3
 refine Jm (Ja (Je (Je (Jb (Jd [2] [(6,Pt b2 0),(10,Pt b3 0),(39,.agg #[I (h.epoch+1),U root,U ((KV h).1),I a])] (Ji 40 (I (JD (⟨h.epoch+1,root,(KV h).1,a⟩:JR))) (Zv (⟨h.epoch+1,root,(KV h).1,a⟩:JR) G) (Jd [0] [(6,Pt b2 0),(10,Pt b3 0),(11,I (JD (⟨h.epoch+1,root,(KV h).1,a⟩:JR)))] (Jc (Ja (Jg [0,0] [(6,Pt b2 0),(10,Pt b3 0),(11,I (JD (⟨h.epoch+1,root,(KV h).1,a⟩:JR))),(42,Bo (!decide (JD (⟨h.epoch+1,root,(KV h).1,a⟩:JR)=0)))] (Jo (!decide (JD (⟨h.epoch+1,root,(KV h).1,a⟩:JR)=0)) (fun h4=>?_) (fun h4=>?_))))))))))))
 try simp only [BB] at h4
 refine Jg [0,0,5,0] [(6,Pt b2 0),(7,I (JD (⟨h.epoch+1,root,(KV h).1,a⟩:JR)))] (Jk (Jh (Jl [1,0] [.agg #[I 0,U 0,U 0,I 0],I (JD (⟨h.epoch+1,root,(KV h).1,a⟩:JR))] (Jv (Jt.le_refl _) ?_))))
 have hf_:(Jy h root a)=((⟨0,0,0,0⟩:JR),(JD (⟨h.epoch+1,root,(KV h).1,a⟩:JR))):=by
  (try rw [Yi] at *);unfold Jy ZV WY;grind
 · (try rw [hf_]);(simp only [JL];done)
 try simp only [BB] at h4
 refine Jm (Ja (WM [2,5,0] [(6,Pt b2 0),(7,I 0)] [[Sg b3 0 [I (h.epoch+1),U root,U ((KV h).1),I a]],[Sg b2 0 [I (h.epoch+1),U root,U ((KV h).1),I a]],[Sg b1 0 [I h.epoch,U h.root,U h.prev,I h.at_]]] (Jk (Jl [1,0] [.agg #[I (h.epoch+1),U root,U ((KV h).1),I a],I 0] (Jv (Jt.le_refl _) ?_)))))
 have hf_:(Jy h root a)=((⟨h.epoch+1,root,(KV h).1,a⟩:JR),0):=by
  (try rw [Yi] at *);unfold Jy ZV WY;grind
 · (try rw [hf_]);(simp only [JL];done)
theorem Jat (G:Jt) (name:List UInt8) (value:List UInt8) :QF Tryz.prog 145 #[Sr name,Sr value] G [] (fun u G' L'=>u=I (Qh name value)):=by
 refine JJ Tryz.func145 13 [(0,Sr name),(1,Sr value)] rfl (fun w0 G0=>?_)
 refine Jg [0] [(0,Sr name),(1,Sr value)] (Je (Jz (Je (Jb (Jd [0] [(1,Sr value),(6,Sr name)] (Ji 7 (Bo (Kt name)) (Zk G name) (Jd [0,0] [(1,Sr value),(5,Bo (!(Kt name)))] (Jc (Ja (Jo (!(Kt name)) (fun h1=>?_) (fun h1=>?_)))))))))))
 try simp only [BB] at h1
 refine Jg [0] [(4,I 3)] (Jk (Js (Jh (Jl [0] [I 3] (Jv (Jt.le_refl _) ?_)))))
 have hf_:(Qh name value)=3:=by
  unfold Qh;simp_all;try omega
 · (try rw [hf_]);(simp only [JL];done)
 try simp only [BB] at h1
 refine Jg [0,0,0,0] [(9,Bo (decide (((value).length:Int) > 20)))] (Jo (decide (((value).length:Int) > 20)) (fun h2=>?_) (fun h2=>?_))
 try simp only [BB] at h2
 refine Jg [0] [(4,I 2)] (Jk (Js (Jh (Jl [0] [I 2] (Jv (Jt.le_refl _) ?_)))))
 have hf_:(Qh name value)=2:=by
  unfold Qh;simp_all;try omega
 · (try rw [hf_]);(simp only [JL];done)
 try simp only [BB] at h2
 refine Jm (JM (Ja (Jg [0] [(4,I 0)] (Jk (Jl [0] [I 0] (Jv (Jt.le_refl _) ?_))))))
 have hf_:(Qh name value)=0:=by
  unfold Qh;simp_all;try omega
 · (try rw [hf_]);(simp only [JL];done)
theorem Jfe (G:Jt) (key:Int) (s:List UInt8) (hs:s.length≤1000000):QF Tryz.prog 177 #[U key,Sr s] G [] (fun u G' L'=>u=U (YO key s)):=by
 refine JJ Tryz.func177 13 [(0,U key),(1,Sr s)] rfl (fun w0 G0=>?_)
 refine Jg [0] [(0,U key),(1,Sr s)] (Je (Jb (Jd [0] [(0,U key),(1,Sr s),(5,U key)] (Ji 6 (Sr (KS key)) (ZO key G) (Jd [0] [(0,U key),(6,Sr (KS key)),(7,Sr s)] (ZB 8 (KS key) s (by simp only [List.length_append,JbV];omega) (Jd [0] [(8,Sr ((KS key)++s)),(9,U key)] (Ji 10 (Sr (KS key)) (ZO key G) (ZB 11 ((KS key)++s) (KS key) (by simp only [List.length_append,JbV];omega) (Ji 12 (U (Jf (((KS key)++s)++(KS key)))) (Zw (((KS key)++s)++(KS key)) (le48 (by (simp;omega))) G) (Jd [0] [(4,U (Jf (((KS key)++s)++(KS key))))] (Jc (Ja (Jk (Jl [0] [U (Jf (((KS key)++s)++(KS key)))] (Jv (Jt.le_refl _) ?_))))))))))))))))
 have hf_:(YO key s)=(Jf (((KS key)++s)++(KS key))):=by
  rfl
 · (try rw [hf_]);(simp only [JL];done)
theorem JfW (G:Jt) (key:Int) (s:List UInt8) (t:Int) (hs:s.length≤1000000):QF Tryz.prog 146 #[U key,Sr s,U t] G [] (fun u G' L'=>u=Bo (ZQ key s t)):=by
 refine JJ Tryz.func146 12 [(0,U key),(1,Sr s),(2,U t)] rfl (fun w0 G0=>?_)
 refine Jg [0] [(0,U key),(1,Sr s),(2,U t)] (Je (Jb (Jd [0,0] [(2,U t),(7,U key),(8,Sr s)] (Ji 9 (U (YO key s)) (Jfe G key s ‹_›) (Jd [0,0,0] [(6,Bo (decide (YO key s=t)))] (Jc (Ja (Jk (Jl [0] [Bo (decide (YO key s=t))] (Jv (Jt.le_refl _) ?_))))))))))
 have hf_:(ZQ key s t)=(decide (YO key s=t)):=by
  rfl
 · (try rw [hf_]);(simp only [JL];done)
theorem JcZ (G:Jt) (name:List UInt8) (hw_name:(name).length≤140737488351232) (value:List UInt8) (hw_value:(value).length≤140737488351232) (n:Int) :QF Tryz.prog 147 #[Sr name,Sr value,U n] G [] (fun u G' L'=>u=Sr (Q9 name value n)):=by
 refine JJ Tryz.func147 20 [(0,Sr name),(1,Sr value),(2,U n)] rfl (fun w0 G0=>?_)
 refine Jg [0] [(0,Sr name),(1,Sr value),(2,U n)] (Je (Jb (Jd [0,0] [(2,U n),(10,Sr name),(11,Sr value)] (KH 12 2 #[Sr name,Sr value] 9 (fun b1=>QQ (b:=b1) (o:=0) (cs:=[Sr name,Sr value]) 0 (fun G1 hl1 hz1=>?_))))))
 have hs1:RS ES G1 (At b1 0) 2 [name,value]:=RS.lit [[Sr name],[Sr value]] [name,value] ⟨⟨rfl,hw_name⟩,⟨⟨rfl,hw_value⟩,trivial⟩⟩ hz1 (Nat.le_of_ble_eq_true rfl) (Nat.le_of_ble_eq_true rfl)
 refine Ji 13 (.tuple #[Sr ((Yw ([name,value])).1),I ((Yw ([name,value])).2)]) (JgL G1 (At b1 0) 2 ([name,value]) hs1) (Jd [0,0,0,0,0] [(2,U n),(7,Sr ((Yw ([name,value])).1))] (Jc (Ja (Je (Jb (Jd [0] [(7,Sr ((Yw ([name,value])).1)),(16,U n)] (Ji 17 (Sr (KS n)) (ZO n G1) (Jd [0] [(17,Sr (KS n)),(18,Sr ((Yw ([name,value])).1))] (ZB 19 (KS n) ((Yw ([name,value])).1) (by have:=Jbg [name,value];simp only [JbV];omega) (Jd [0] [(6,Sr ((KS n)++((Yw ([name,value])).1)))] (Jc (Ja (Jk (Jl [0] [Sr ((KS n)++((Yw ([name,value])).1))] (Jv hl1 ?_)))))))))))))))
 have hf_:(Q9 name value n)=(KS n)++((Yw ([name,value])).1):=by
  rfl
 · (try rw [hf_]);(simp only [JL];done)
theorem JhS (G:Jt) (key:Int) (name:List UInt8) (hw_name:(name).length≤140737488351232) (value:List UInt8) (hw_value:(value).length≤140737488351232) (n:Int) (hw_n:rU n) :QF Tryz.prog 143 #[U key,Sr name,Sr value,U n] G [] (fun u G' L'=>u=.tuple #[.agg #[Sr (((WQ key name value n).1).name),Sr (((WQ key name value n).1).value),U (((WQ key name value n).1).n),U (((WQ key name value n).1).tag)],I ((WQ key name value n).2)]∧((((WQ key name value n).1).name).length≤140737488351232)∧((((WQ key name value n).1).value).length≤140737488351232)∧(rU (((WQ key name value n).1).n))∧(rU (((WQ key name value n).1).tag))∧L'=[]):=by
 refine JJ Tryz.func143 28 [(0,U key),(1,Sr name),(2,Sr value),(3,U n)] rfl (fun w0 G0=>?_)
 refine Je (Jb (Ju 8 #[Sr ([]),Sr ([]),U 0,U 0] 83 (fun b1=>Jd [0] [(0,U key),(1,Sr name),(2,Sr value),(3,U n),(8,Pt b1 0)] (Jc (Ja (Je (Je (Jb (Jd [0,0] [(0,U key),(1,Sr name),(2,Sr value),(3,U n),(8,Pt b1 0),(11,Sr name),(12,Sr value)] (Ji 13 (I (Qh name value)) (Jat G name value) (Jd [0] [(0,U key),(1,Sr name),(2,Sr value),(3,U n),(8,Pt b1 0),(10,I (Qh name value))] (Jc (Ja (Jg [0,0] [(0,U key),(1,Sr name),(2,Sr value),(3,U n),(8,Pt b1 0),(10,I (Qh name value)),(15,Bo (!decide (Qh name value=0)))] (Jo (!decide (Qh name value=0)) (fun h1=>?_) (fun h1=>?_))))))))))))))))
 try simp only [BB] at h1
 refine Jg [0,0,3,0] [(8,Pt b1 0),(9,I (Qh name value))] (Jk (Jh ?_))
 have hf1:WQ key name value n=((⟨[],[],0,0⟩:WT),Qh name value):=by
  unfold WQ JgS;simp_all
 refine Jl [0,0] [.agg #[Sr ([]),Sr ([]),U 0,U 0],I (Qh name value)] (JY [] (.cons _ .slnil) (Jt.le_refl _) ?_)
 rw [hf1]
 try dsimp only
 exact ⟨rfl,(Nat.le_of_ble_eq_true rfl),(Nat.le_of_ble_eq_true rfl),(by omega),(by omega),rfl⟩
 try simp only [BB] at h1
 refine Jm (Ja (Je (Jb (Jd [0,0,0,0,0,0,0] [(8,Pt b1 0),(18,Sr name),(19,Sr value),(20,U n),(21,U key),(22,Sr name),(23,Sr value),(24,U n)] (Ji 25 (Sr (Q9 name value n)) (JcZ G name hw_name value hw_value n) (Ji 26 (U (YO key (Q9 name value n))) (Jfe G key (Q9 name value n) (Nat.le_trans (JcY name value n) (by decide))) (Kd [0,3,0] [(8,Pt b1 0),(9,I 0)] [[Sg b1 0 [Sr name,Sr value,U n,U (YO key (Q9 name value n))]]] (Jc (Ja (Jk ?_))))))))))
 have hf2:WQ key name value n=((⟨name,value,n,YO key (Q9 name value n)⟩:WT),0):=by
  unfold WQ JgS;simp_all
 refine Jl [0,0] [.agg #[Sr name,Sr value,U n,U (YO key (Q9 name value n))],I 0] (JY [] (.cons _ .slnil) (Jt.le_refl _) ?_)
 rw [hf2]
 try dsimp only
 exact ⟨rfl,hw_name,hw_value,hw_n,(Jk5 _ _),rfl⟩
theorem JfX (G:Jt) (key:Int) (vs_a:List Value) (a:WT) (h_a:QV.R G vs_a a) :QF Tryz.prog 108 #[U key,.agg vs_a.toArray] G [] (fun u G' L'=>u=Bo (ZH key a)):=by
 obtain ⟨rfl,w1,w2,_,_⟩:=h_a
 refine JJ Tryz.func108 24 [(0,U key),(1,.agg #[Sr a.name,Sr a.value,U a.n,U a.tag])] rfl (fun w0 G0=>?_)
 refine Je (Jb (Ju 3 #[Sr a.name,Sr a.value,U a.n,U a.tag] 83 (fun b1=>Jd [0] [(0,U key),(3,Pt b1 0)] (Jc (Ja (Je ?_))))))
 rcases Bool.eq_false_or_eq_true (decide (Qh a.name a.value=0)) with h1 | h1
 have h1d:=h1
 try simp only [BB] at h1d
 refine KB [] (Wr [(0,Pt b1 0),(1,Sr a.name),(2,Pt b1 1),(3,Sr a.value),(4,I (Qh a.name a.value)),(5,Bo true),(6,Bo true),(7,U key),(8,Pt b1 0),(9,Sr a.name),(10,Pt b1 1),(11,Sr a.value),(12,Pt b1 2),(13,U a.n),(14,Sr (Q9 a.name a.value a.n)),(15,Pt b1 3),(16,U a.tag),(17,Bo (ZQ key (Q9 a.name a.value a.n) a.tag)),(18,Bo (ZQ key (Q9 a.name a.value a.n) a.tag)),(19,Bo (ZQ key (Q9 a.name a.value a.n) a.tag))] (KA [] [(0,0),(1,2),(2,0),(3,2),(6,0),(7,0),(8,0),(9,2),(10,0),(11,2),(12,0),(13,2),(15,0),(16,2),(18,0),(19,0)] [4,5,14,17] [(4,Bo (ZQ key (Q9 a.name a.value a.n) a.tag))] (List.forall_mem_cons.2 ⟨?_,(List.forall_mem_cons.2 ⟨?_,(List.forall_mem_cons.2 ⟨?_,(List.forall_mem_cons.2 ⟨?_,List.forall_mem_nil _⟩)⟩)⟩)⟩) ?_))
 refine Jr 4 9 (I (Qh a.name a.value)) [(6,Sr a.name),(8,Sr a.value)] (fun X=>?_)
 exact Ji 9 (I (Qh a.name a.value)) (Jat G a.name a.value) Jp
 refine Jr 5 10 (Bo true) [(9,I (Qh a.name a.value))] (fun X=>?_)
 exact K6 10 (Bo (decide (Qh a.name a.value=0))) (Bo true) (by rw [h1]) Jp
 refine Jr 14 19 (Sr (Q9 a.name a.value a.n)) [(11,Bo true),(14,Sr a.name),(16,Sr a.value),(18,U a.n)] (fun X=>?_)
 exact Ji 19 (Sr (Q9 a.name a.value a.n)) (JcZ G a.name w1 a.value w2 a.n) Jp
 refine Jr 17 22 (Bo (ZQ key (Q9 a.name a.value a.n) a.tag)) [(11,Bo true),(12,U key),(19,Sr (Q9 a.name a.value a.n)),(21,U a.tag)] (fun X=>?_)
 exact Ji 22 (Bo (ZQ key (Q9 a.name a.value a.n) a.tag)) (JfW G key (Q9 a.name a.value a.n) a.tag (Nat.le_trans (JcY a.name a.value a.n) (by decide))) Jp
 refine Ja (Jk (Jl [0] [Bo (ZQ key (Q9 a.name a.value a.n) a.tag)] (Jv (Jt.le_refl _) ?_)))
 have hf_:(ZH key a)=(ZQ key (Q9 a.name a.value a.n) a.tag):=by
  unfold ZH;simp_all [ZQ]
 · (try rw [hf_]);(simp only [JL];done)
 have h1d:=h1
 try simp only [BB] at h1d
 refine KB [] (Wr [(0,Pt b1 0),(1,Sr a.name),(2,Pt b1 1),(3,Sr a.value),(4,I (Qh a.name a.value)),(5,Bo false),(6,Bo false),(7,undef),(8,undef),(9,undef),(10,undef),(11,undef),(12,undef),(13,undef),(14,undef),(15,undef),(16,undef),(17,undef),(18,Bo false),(19,Bo false)] (KA [] [(0,0),(1,2),(2,0),(3,2),(6,0),(7,1),(8,1),(9,1),(10,1),(11,1),(12,1),(13,1),(14,1),(15,1),(16,1),(17,1),(18,0),(19,0)] [4,5] [(4,Bo false)] (List.forall_mem_cons.2 ⟨?_,(List.forall_mem_cons.2 ⟨?_,List.forall_mem_nil _⟩)⟩) ?_))
 refine Jr 4 9 (I (Qh a.name a.value)) [(6,Sr a.name),(8,Sr a.value)] (fun X=>?_)
 exact Ji 9 (I (Qh a.name a.value)) (Jat G a.name a.value) Jp
 refine Jr 5 10 (Bo false) [(9,I (Qh a.name a.value))] (fun X=>?_)
 exact K6 10 (Bo (decide (Qh a.name a.value=0))) (Bo false) (by rw [h1]) Jp
 refine Ja (Jk (Jl [0] [Bo false] (Jv (Jt.le_refl _) ?_)))
 have hf_:(ZH key a)=false:=by
  unfold ZH;simp_all [ZQ]
 · (try rw [hf_]);(simp only [JL];done)
end Go.Proofs.YtnnlpbjdignhaaaGreatDoor
