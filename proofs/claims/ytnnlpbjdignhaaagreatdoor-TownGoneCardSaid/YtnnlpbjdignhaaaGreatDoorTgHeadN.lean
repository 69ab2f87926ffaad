import Derived.Test.YtnnlpbjdignhaaaGreatDoorTgHead
import Derived.Test.YtnnlpbjdignhaaaGreatDoorTgMark
import Derived.Test.YtnnlpbjdignhaaaGreatDoorTgQueue
namespace Go.Proofs.YtnnlpbjdignhaaaGreatDoor
open Go.Tx
set_option linter.unusedVariables false
set_option linter.unusedSimpArgs false
theorem le48 {n:Nat} (h:n≤140737488351232):n≤140737488355328:=by omega
theorem Jf2 (h:JS):(QL h).1.length≤33:=by
 unfold QL;split
 ·
  simp
 ·
  rw [Jds];exact Nat.le_refl _
theorem Jb3 (n:Int):(KS n).length=8:=JgL n
def KW (h:JS):Int×Int:=if (QL h).2 ≠ 0 then (0,(QL h).2) else (Jf (QL h).1,0)
def ZY (h:JS) (root at_:Int):Int:=if JE h ≠ 0 then JE h else if h.epoch=1000000 then 7 else if at_<h.at_ then 4 else JE ⟨h.epoch+1,root,(KW h).1,at_⟩
def Jy (h:JS) (root at_:Int):JS×Int:=if ZY h root at_ ≠ 0 then (W0,ZY h root at_) else (⟨h.epoch+1,root,(KW h).1,at_⟩,0)
theorem Jf3 (h:JS):(QL h).2=JE h:=by unfold QL;split <;> simp_all
theorem Ym (h:JS):(KW h).2=JE h:=by unfold KW;rw [Jf3];split <;> simp_all
theorem JgY (h:JS):0≤(KW h).1∧(KW h).1<2305843009213693951:=by
 unfold KW;split
 ·
  simp
 ·
  exact Qz _
theorem JgZ {h:JS} (e:JE h=0):QL h=(Vc h,0):=by unfold QL;rw [if_neg (by omega)]
theorem Jg0 {h:JS} (e:JE h=0):KW h=(Jf (Vc h),0):=by
 unfold KW;rw [JgZ e];simp
theorem V1 {h:JS} {root at_:Int} (e:(Jy h root at_).2=0):JE h=0∧h.epoch<1000000∧h.at_≤at_∧Jy h root at_=(⟨h.epoch+1,root,Jf (Vc h),at_⟩,0)∧JE ⟨h.epoch+1,root,Jf (Vc h),at_⟩=0:=by
 unfold Jy at e ⊢
 split at e
 ·
  contradiction
 ·
  rename_i h1
  rw [if_neg h1]
  unfold ZY at h1
  by_cases e1:JE h=0
  ·
   rw [if_neg (by omega)] at h1
   have hb:=W8 e1
   have hm:=Jg0 e1
   rw [hm] at h1 ⊢
   by_cases e2:h.epoch=1000000
   ·
    rw [if_pos e2] at h1;simp at h1
   ·
    rw [if_neg e2] at h1
    by_cases e3:at_<h.at_
    ·
     rw [if_pos e3] at h1;simp at h1
    ·
     rw [if_neg e3] at h1
     exact ⟨e1,by omega,by omega,rfl,by simpa using h1⟩
  ·
   rw [if_pos e1] at h1;omega
def Jg1:WU:=⟨[],[],0,0⟩
def YW (key:Int) (s:List UInt8):Int:=Jf ((KS key++s)++KS key)
theorem Jle (k:Int) (s:List UInt8):0≤YW k s∧YW k s<18446744073709551616:=by have:=Qz ((KS k++s)++KS k);unfold YW;omega
def Wb (name value:List UInt8) (n:Int):List UInt8:=KS n++(YD [name,value]).1
def ZT (key:Int) (s:List UInt8) (t:Int):Bool:=decide (YW key s=t)
def WR (key:Int) (name value:List UInt8) (n:Int):WU×Int:=if Qi name value ≠ 0 then (Jg1,Qi name value) else (⟨name,value,n,YW key (Wb name value n)⟩,0)
def ZK (key:Int) (a:WU):Bool:=decide (Qi a.name a.value=0) && decide (YW key (Wb a.name a.value a.n)=a.tag)
theorem Jbp (l:List (List UInt8)):(YD l).1.length≤600:=by
 unfold YD
 split
 ·
  simp
 ·
  split
  ·
   rename_i h
   have:∀ (l:List (List UInt8)) (n:Nat),n≤600→Jb2 n l=true→n+(JeB l).length≤600:=by
    intro l
    induction l with
    | nil=>intro n h _;simp [JeB];exact h
    | cons p l ih =>
     intro n _ h
     unfold Jb2 at h
     simp only [Bool.and_eq_true,decide_eq_true_eq] at h
     have:=ih _ h.1 h.2
     have e:(JeB (p::l)).length=2+p.length+(JeB l).length:=by simp [JeB,putC];omega
     omega
   have:=this l 0 (by omega) h
   simp only;omega
  ·
   simp
theorem Jc7 (a b:List UInt8) (n:Int):(Wb a b n).length≤608:=by
 unfold Wb;rw [List.length_append,Jb3];have:=Jbp [a,b];omega
theorem Jf4 (G:Jt) (vs_h:List Value) (h:JS) (h_h:KE.R G vs_h h) :QI Tryz.prog 140 #[.agg vs_h.toArray] G [] (fun u G' L'=>u=.tuple #[U ((KW h).1),I ((KW h).2)]):=by
 obtain ⟨rfl,_,_,_,_⟩:=h_h
 refine JK Tryz.func140 16 [(0,.agg #[I h.epoch,U h.root,U h.prev,I h.at_])] rfl (fun w0 G0=>?_)
 refine Je (Jb (Ju 1 #[I h.epoch,U h.root,U h.prev,I h.at_] 50 (fun b1=>Jd [0,0] [(1,Pt b1 0)] (Jc (Ja (Je (Jb (Jd [2] [(7,.agg #[I h.epoch,U h.root,U h.prev,I h.at_])] (Ji 8 (.tuple #[Sr ((QL h).1),I ((QL h).2)]) (JfT h G) (Jd [0,0,0,0,0] [(4,Sr ((QL h).1)),(5,I ((QL h).2))] (Jc (Ja (Je (Jg [0,0] [(4,Sr ((QL h).1)),(5,I ((QL h).2)),(12,Bo (!decide ((QL h).2=0)))] (Jo (!decide ((QL h).2=0)) (fun h1=>?_) (fun h1=>?_))))))))))))))))
 try simp only [BB] at h1
 refine Jg [0,0,0] [(2,U 0),(3,I ((QL h).2))] (Jk (Jh (Jl [0,0] [U 0,I ((QL h).2)] (Jv (Jt.le_refl _) ?_))))
 have hf_:(KW h)=(0,((QL h).2)):=by
  unfold KW;simp_all
 · (try rw [hf_]);(simp only [JM];done)
 try simp only [BB] at h1
 refine Jn (Ja (Je (Jb (Jd [0] [(14,Sr ((QL h).1))] (Ji 15 (U (Jf ((QL h).1))) (Zx ((QL h).1) (le48 (Nat.le_trans (Jf2 h) (by decide))) G) (Jd [0,0] [(2,U (Jf ((QL h).1))),(3,I 0)] (Jc (Ja (Jk (Jl [0,0] [U (Jf ((QL h).1)),I 0] (Jv (Jt.le_refl _) ?_)))))))))))
 have hf_:(KW h)=((Jf ((QL h).1)),0):=by
  unfold KW;simp_all
 · (try rw [hf_]);(simp only [JM];done)
theorem JaA (G:Jt) (vs_h:List Value) (h:JS) (h_h:KE.R G vs_h h) (root:Int) (hw_root:rU root) (a:Int) (hw_a:rI a) :QI Tryz.prog 103 #[.agg vs_h.toArray,U root,I a] G [] (fun u G' L'=>u=.tuple #[.agg #[I (((Jy h root a).1).epoch),U (((Jy h root a).1).root),U (((Jy h root a).1).prev),I (((Jy h root a).1).at_)],I ((Jy h root a).2)]):=by
 obtain ⟨rfl,w1,w2,w3,w4⟩:=h_h
 refine JK Tryz.func103 46 [(0,.agg #[I h.epoch,U h.root,U h.prev,I h.at_]),(1,U root),(2,I a)] rfl (fun w0 G0=>?_)
 refine Je (Jb (Ju 3 #[I h.epoch,U h.root,U h.prev,I h.at_] 50 (fun b1=>Ju 6 #[I 0,U 0,U 0,I 0] 50 (fun b2=>Jd [0] [(1,U root),(2,I a),(3,Pt b1 0),(6,Pt b2 0)] (Jc (Ja (Je (Jb (Jd [4] [(1,U root),(2,I a),(3,Pt b1 0),(6,Pt b2 0),(13,.agg #[I h.epoch,U h.root,U h.prev,I h.at_])] (Ji 14 (.tuple #[U ((KW h).1),I ((KW h).2)]) (Jf4 G [I h.epoch,U h.root,U h.prev,I h.at_] h (⟨rfl,w1,w2,w3,w4⟩)) (Jd [0,0,0,0,0] [(1,U root),(2,I a),(3,Pt b1 0),(6,Pt b2 0),(8,U ((KW h).1)),(9,I ((KW h).2))] (Jc (Ja (Je (Jz (Jg [0,0,0] [(1,U root),(2,I a),(3,Pt b1 0),(6,Pt b2 0),(8,U ((KW h).1)),(9,I ((KW h).2)),(17,Bo (!decide ((KW h).2=0)))] (Jo (!decide ((KW h).2=0)) (fun h1=>?_) (fun h1=>?_))))))))))))))))))
 try simp only [BB] at h1
 refine Jg [0,0,3,0] [(6,Pt b2 0),(7,I ((KW h).2))] (Jk (Js (Jh (Jl [0,0] [.agg #[I 0,U 0,U 0,I 0],I ((KW h).2)] (Jv (Jt.le_refl _) ?_)))))
 have hf_:(Jy h root a)=((⟨0,0,0,0⟩:JS),((KW h).2)):=by
  (try rw [Ym] at *);unfold Jy ZY W0;grind
 · (try rw [hf_]);(simp only [JM];done)
 try simp only [BB] at h1
 refine Jg [0,4,0,0] [(1,U root),(2,I a),(3,Pt b1 0),(6,Pt b2 0),(8,U ((KW h).1)),(22,Bo (decide (h.epoch=1000000)))] (Jo (decide (h.epoch=1000000)) (fun h2=>?_) (fun h2=>?_))
 try simp only [BB] at h2
 refine Jg [0,3,0] [(6,Pt b2 0),(7,I 7)] (Jk (Js (Jh (Jl [0,0] [.agg #[I 0,U 0,U 0,I 0],I 7] (Jv (Jt.le_refl _) ?_)))))
 have hf_:(Jy h root a)=((⟨0,0,0,0⟩:JS),7):=by
  (try rw [Ym] at *);unfold Jy ZY W0;grind
 · (try rw [hf_]);(simp only [JM];done)
 try simp only [BB] at h2
 refine Jn (JN (Ja (Je (Jb (Jd [0,4,0,0,0,0,0] [(2,I a),(3,Pt b1 0),(6,Pt b2 0),(33,.agg #[I (IntKind.i64.wrap (h.epoch+1)),U root,U ((KW h).1),I a])] ?_)))))
 have e1:IntKind.i64.wrap (h.epoch+1)=h.epoch+1:=IntWalk.i64_in _ (by have:=W8 (h:=h) (by rw [← Ym];assumption);omega)
 refine J4 (fr':=[(2,I a),(3,Pt b1 0),(6,Pt b2 0),(33,.agg #[I (h.epoch+1),U root,U ((KW h).1),I a])]) (L':=[[Sg b2 0 [I 0,U 0,U 0,I 0]],[Sg b1 0 [I h.epoch,U h.root,U h.prev,I h.at_]]]) (by simp only [e1]) (by rfl) ?_
 clear e1
 refine Ju 10 #[I 0,U 0,U 0,I 0] 50 (fun b3=>Kd [3] [(2,I a),(3,Pt b1 0),(6,Pt b2 0),(10,Pt b3 0)] [[Sg b3 0 [I (h.epoch+1),U root,U ((KW h).1),I a]],[Sg b2 0 [I 0,U 0,U 0,I 0]],[Sg b1 0 [I h.epoch,U h.root,U h.prev,I h.at_]]] (Jc (Ja (Je (Jg [0,0,6,0] [(6,Pt b2 0),(10,Pt b3 0),(37,Bo (decide (a<h.at_)))] (Jo (decide (a<h.at_)) (fun h3=>?_) (fun h3=>?_)))))))
 try simp only [BB] at h3
 refine Jg [0,5,0] [(6,Pt b2 0),(7,I 4)] (Jk (Jh (Jl [1,0] [.agg #[I 0,U 0,U 0,I 0],I 4] (Jv (Jt.le_refl _) ?_))))
 have hf_:(Jy h root a)=((⟨0,0,0,0⟩:JS),4):=by
  (try rw [Ym] at *);unfold Jy ZY W0;grind
 · (try rw [hf_]);(simp only [JM];done)
 try simp only [BB] at h3
 refine Jn (Ja (Je (Je (Jb (Jd [2] [(6,Pt b2 0),(10,Pt b3 0),(39,.agg #[I (h.epoch+1),U root,U ((KW h).1),I a])] (Ji 40 (I (JE (⟨h.epoch+1,root,(KW h).1,a⟩:JS))) (Zw (⟨h.epoch+1,root,(KW h).1,a⟩:JS) G) (Jd [0] [(6,Pt b2 0),(10,Pt b3 0),(11,I (JE (⟨h.epoch+1,root,(KW h).1,a⟩:JS)))] (Jc (Ja (Jg [0,0] [(6,Pt b2 0),(10,Pt b3 0),(11,I (JE (⟨h.epoch+1,root,(KW h).1,a⟩:JS))),(42,Bo (!decide (JE (⟨h.epoch+1,root,(KW h).1,a⟩:JS)=0)))] (Jo (!decide (JE (⟨h.epoch+1,root,(KW h).1,a⟩:JS)=0)) (fun h4=>?_) (fun h4=>?_))))))))))))
 try simp only [BB] at h4
 refine Jg [0,0,5,0] [(6,Pt b2 0),(7,I (JE (⟨h.epoch+1,root,(KW h).1,a⟩:JS)))] (Jk (Jh (Jl [1,0] [.agg #[I 0,U 0,U 0,I 0],I (JE (⟨h.epoch+1,root,(KW h).1,a⟩:JS))] (Jv (Jt.le_refl _) ?_))))
 have hf_:(Jy h root a)=((⟨0,0,0,0⟩:JS),(JE (⟨h.epoch+1,root,(KW h).1,a⟩:JS))):=by
  (try rw [Ym] at *);unfold Jy ZY W0;grind
 · (try rw [hf_]);(simp only [JM];done)
 try simp only [BB] at h4
 refine Jn (Ja (WO [2,5,0] [(6,Pt b2 0),(7,I 0)] [[Sg b3 0 [I (h.epoch+1),U root,U ((KW h).1),I a]],[Sg b2 0 [I (h.epoch+1),U root,U ((KW h).1),I a]],[Sg b1 0 [I h.epoch,U h.root,U h.prev,I h.at_]]] (Jk (Jl [1,0] [.agg #[I (h.epoch+1),U root,U ((KW h).1),I a],I 0] (Jv (Jt.le_refl _) ?_)))))
 have hf_:(Jy h root a)=((⟨h.epoch+1,root,(KW h).1,a⟩:JS),0):=by
  (try rw [Ym] at *);unfold Jy ZY W0;grind
 · (try rw [hf_]);(simp only [JM];done)
theorem JaB (G:Jt) (name:List UInt8) (value:List UInt8) :QI Tryz.prog 145 #[Sr name,Sr value] G [] (fun u G' L'=>u=I (Qi name value)):=by
 refine JK Tryz.func145 13 [(0,Sr name),(1,Sr value)] rfl (fun w0 G0=>?_)
 refine Jg [0] [(0,Sr name),(1,Sr value)] (Je (Jz (Je (Jb (Jd [0] [(1,Sr value),(6,Sr name)] (Ji 7 (Bo (Kt name)) (Zm G name) (Jd [0,0] [(1,Sr value),(5,Bo (!(Kt name)))] (Jc (Ja (Jo (!(Kt name)) (fun h1=>?_) (fun h1=>?_)))))))))))
 try simp only [BB] at h1
 refine Jg [0] [(4,I 3)] (Jk (Js (Jh (Jl [0] [I 3] (Jv (Jt.le_refl _) ?_)))))
 have hf_:(Qi name value)=3:=by
  unfold Qi;simp_all;try omega
 · (try rw [hf_]);(simp only [JM];done)
 try simp only [BB] at h1
 refine Jg [0,0,0,0] [(9,Bo (decide (((value).length:Int) > 20)))] (Jo (decide (((value).length:Int) > 20)) (fun h2=>?_) (fun h2=>?_))
 try simp only [BB] at h2
 refine Jg [0] [(4,I 2)] (Jk (Js (Jh (Jl [0] [I 2] (Jv (Jt.le_refl _) ?_)))))
 have hf_:(Qi name value)=2:=by
  unfold Qi;simp_all;try omega
 · (try rw [hf_]);(simp only [JM];done)
 try simp only [BB] at h2
 refine Jn (JN (Ja (Jg [0] [(4,I 0)] (Jk (Jl [0] [I 0] (Jv (Jt.le_refl _) ?_))))))
 have hf_:(Qi name value)=0:=by
  unfold Qi;simp_all;try omega
 · (try rw [hf_]);(simp only [JM];done)
theorem Jfm (G:Jt) (key:Int) (s:List UInt8) (hs:s.length≤1000000):QI Tryz.prog 177 #[U key,Sr s] G [] (fun u G' L'=>u=U (YW key s)):=by
 refine JK Tryz.func177 13 [(0,U key),(1,Sr s)] rfl (fun w0 G0=>?_)
 refine Jg [0] [(0,U key),(1,Sr s)] (Je (Jb (Jd [0] [(0,U key),(1,Sr s),(5,U key)] (Ji 6 (Sr (KS key)) (ZQ key G) (Jd [0] [(0,U key),(6,Sr (KS key)),(7,Sr s)] (ZE 8 (KS key) s (by simp only [List.length_append,Jb3];omega) (Jd [0] [(8,Sr ((KS key)++s)),(9,U key)] (Ji 10 (Sr (KS key)) (ZQ key G) (ZE 11 ((KS key)++s) (KS key) (by simp only [List.length_append,Jb3];omega) (Ji 12 (U (Jf (((KS key)++s)++(KS key)))) (Zx (((KS key)++s)++(KS key)) (le48 (by (simp;omega))) G) (Jd [0] [(4,U (Jf (((KS key)++s)++(KS key))))] (Jc (Ja (Jk (Jl [0] [U (Jf (((KS key)++s)++(KS key)))] (Jv (Jt.le_refl _) ?_))))))))))))))))
 have hf_:(YW key s)=(Jf (((KS key)++s)++(KS key))):=by
  rfl
 · (try rw [hf_]);(simp only [JM];done)
theorem Jf5 (G:Jt) (key:Int) (s:List UInt8) (t:Int) (hs:s.length≤1000000):QI Tryz.prog 146 #[U key,Sr s,U t] G [] (fun u G' L'=>u=Bo (ZT key s t)):=by
 refine JK Tryz.func146 12 [(0,U key),(1,Sr s),(2,U t)] rfl (fun w0 G0=>?_)
 refine Jg [0] [(0,U key),(1,Sr s),(2,U t)] (Je (Jb (Jd [0,0] [(2,U t),(7,U key),(8,Sr s)] (Ji 9 (U (YW key s)) (Jfm G key s ‹_›) (Jd [0,0,0] [(6,Bo (decide (YW key s=t)))] (Jc (Ja (Jk (Jl [0] [Bo (decide (YW key s=t))] (Jv (Jt.le_refl _) ?_))))))))))
 have hf_:(ZT key s t)=(decide (YW key s=t)):=by
  rfl
 · (try rw [hf_]);(simp only [JM];done)
theorem Jc8 (G:Jt) (name:List UInt8) (hw_name:(name).length≤140737488351232) (value:List UInt8) (hw_value:(value).length≤140737488351232) (n:Int) :QI Tryz.prog 147 #[Sr name,Sr value,U n] G [] (fun u G' L'=>u=Sr (Wb name value n)):=by
 refine JK Tryz.func147 20 [(0,Sr name),(1,Sr value),(2,U n)] rfl (fun w0 G0=>?_)
 refine Jg [0] [(0,Sr name),(1,Sr value),(2,U n)] (Je (Jb (Jd [0,0] [(2,U n),(10,Sr name),(11,Sr value)] (KG 12 2 #[Sr name,Sr value] 9 (fun b1=>QS (b:=b1) (o:=0) (cs:=[Sr name,Sr value]) 0 (fun G1 hl1 hz1=>?_))))))
 have hs1:RS ES G1 (At b1 0) 2 [name,value]:=RS.lit [[Sr name],[Sr value]] [name,value] ⟨⟨rfl,hw_name⟩,⟨⟨rfl,hw_value⟩,trivial⟩⟩ hz1 (Nat.le_of_ble_eq_true rfl) (Nat.le_of_ble_eq_true rfl)
 refine Ji 13 (.tuple #[Sr ((YD ([name,value])).1),I ((YD ([name,value])).2)]) (JgU G1 (At b1 0) 2 ([name,value]) hs1) (Jd [0,0,0,0,0] [(2,U n),(7,Sr ((YD ([name,value])).1))] (Jc (Ja (Je (Jb (Jd [0] [(7,Sr ((YD ([name,value])).1)),(16,U n)] (Ji 17 (Sr (KS n)) (ZQ n G1) (Jd [0] [(17,Sr (KS n)),(18,Sr ((YD ([name,value])).1))] (ZE 19 (KS n) ((YD ([name,value])).1) (by have:=Jbp [name,value];simp only [Jb3];omega) (Jd [0] [(6,Sr ((KS n)++((YD ([name,value])).1)))] (Jc (Ja (Jk (Jl [0] [Sr ((KS n)++((YD ([name,value])).1))] (Jv hl1 ?_)))))))))))))))
 have hf_:(Wb name value n)=(KS n)++((YD ([name,value])).1):=by
  rfl
 · (try rw [hf_]);(simp only [JM];done)
theorem Jh0 (G:Jt) (key:Int) (name:List UInt8) (hw_name:(name).length≤140737488351232) (value:List UInt8) (hw_value:(value).length≤140737488351232) (n:Int) (hw_n:rU n) :QI Tryz.prog 143 #[U key,Sr name,Sr value,U n] G [] (fun u G' L'=>u=.tuple #[.agg #[Sr (((WR key name value n).1).name),Sr (((WR key name value n).1).value),U (((WR key name value n).1).n),U (((WR key name value n).1).tag)],I ((WR key name value n).2)]∧((((WR key name value n).1).name).length≤140737488351232)∧((((WR key name value n).1).value).length≤140737488351232)∧(rU (((WR key name value n).1).n))∧(rU (((WR key name value n).1).tag))∧L'=[]):=by
 refine JK Tryz.func143 28 [(0,U key),(1,Sr name),(2,Sr value),(3,U n)] rfl (fun w0 G0=>?_)
 refine Je (Jb (Ju 8 #[Sr ([]),Sr ([]),U 0,U 0] 83 (fun b1=>Jd [0] [(0,U key),(1,Sr name),(2,Sr value),(3,U n),(8,Pt b1 0)] (Jc (Ja (Je (Je (Jb (Jd [0,0] [(0,U key),(1,Sr name),(2,Sr value),(3,U n),(8,Pt b1 0),(11,Sr name),(12,Sr value)] (Ji 13 (I (Qi name value)) (JaB G name value) (Jd [0] [(0,U key),(1,Sr name),(2,Sr value),(3,U n),(8,Pt b1 0),(10,I (Qi name value))] (Jc (Ja (Jg [0,0] [(0,U key),(1,Sr name),(2,Sr value),(3,U n),(8,Pt b1 0),(10,I (Qi name value)),(15,Bo (!decide (Qi name value=0)))] (Jo (!decide (Qi name value=0)) (fun h1=>?_) (fun h1=>?_))))))))))))))))
 try simp only [BB] at h1
 refine Jg [0,0,3,0] [(8,Pt b1 0),(9,I (Qi name value))] (Jk (Jh ?_))
 have hf1:WR key name value n=((⟨[],[],0,0⟩:WU),Qi name value):=by
  unfold WR Jg1;simp_all
 refine Jl [0,0] [.agg #[Sr ([]),Sr ([]),U 0,U 0],I (Qi name value)] (JY [] (.cons _ .slnil) (Jt.le_refl _) ?_)
 rw [hf1]
 try dsimp only
 exact ⟨rfl,(Nat.le_of_ble_eq_true rfl),(Nat.le_of_ble_eq_true rfl),(by omega),(by omega),rfl⟩
 try simp only [BB] at h1
 refine Jn (Ja (Je (Jb (Jd [0,0,0,0,0,0,0] [(8,Pt b1 0),(18,Sr name),(19,Sr value),(20,U n),(21,U key),(22,Sr name),(23,Sr value),(24,U n)] (Ji 25 (Sr (Wb name value n)) (Jc8 G name hw_name value hw_value n) (Ji 26 (U (YW key (Wb name value n))) (Jfm G key (Wb name value n) (Nat.le_trans (Jc7 name value n) (by decide))) (Kd [0,3,0] [(8,Pt b1 0),(9,I 0)] [[Sg b1 0 [Sr name,Sr value,U n,U (YW key (Wb name value n))]]] (Jc (Ja (Jk ?_))))))))))
 have hf2:WR key name value n=((⟨name,value,n,YW key (Wb name value n)⟩:WU),0):=by
  unfold WR Jg1;simp_all
 refine Jl [0,0] [.agg #[Sr name,Sr value,U n,U (YW key (Wb name value n))],I 0] (JY [] (.cons _ .slnil) (Jt.le_refl _) ?_)
 rw [hf2]
 try dsimp only
 exact ⟨rfl,hw_name,hw_value,hw_n,(Jle _ _),rfl⟩
theorem Jf6 (G:Jt) (key:Int) (vs_a:List Value) (a:WU) (h_a:QV.R G vs_a a) :QI Tryz.prog 108 #[U key,.agg vs_a.toArray] G [] (fun u G' L'=>u=Bo (ZK key a)):=by
 obtain ⟨rfl,w1,w2,_,_⟩:=h_a
 refine JK Tryz.func108 24 [(0,U key),(1,.agg #[Sr a.name,Sr a.value,U a.n,U a.tag])] rfl (fun w0 G0=>?_)
 refine Je (Jb (Ju 3 #[Sr a.name,Sr a.value,U a.n,U a.tag] 83 (fun b1=>Jd [0] [(0,U key),(3,Pt b1 0)] (Jc (Ja (Je ?_))))))
 rcases Bool.eq_false_or_eq_true (decide (Qi a.name a.value=0)) with h1 | h1
 have h1d:=h1
 try simp only [BB] at h1d
 refine KA [] (Ws [(0,Pt b1 0),(1,Sr a.name),(2,Pt b1 1),(3,Sr a.value),(4,I (Qi a.name a.value)),(5,Bo true),(6,Bo true),(7,U key),(8,Pt b1 0),(9,Sr a.name),(10,Pt b1 1),(11,Sr a.value),(12,Pt b1 2),(13,U a.n),(14,Sr (Wb a.name a.value a.n)),(15,Pt b1 3),(16,U a.tag),(17,Bo (ZT key (Wb a.name a.value a.n) a.tag)),(18,Bo (ZT key (Wb a.name a.value a.n) a.tag)),(19,Bo (ZT key (Wb a.name a.value a.n) a.tag))] (Kz [] [(0,0),(1,2),(2,0),(3,2),(6,0),(7,0),(8,0),(9,2),(10,0),(11,2),(12,0),(13,2),(15,0),(16,2),(18,0),(19,0)] [4,5,14,17] [(4,Bo (ZT key (Wb a.name a.value a.n) a.tag))] (List.forall_mem_cons.2 ⟨?_,(List.forall_mem_cons.2 ⟨?_,(List.forall_mem_cons.2 ⟨?_,(List.forall_mem_cons.2 ⟨?_,List.forall_mem_nil _⟩)⟩)⟩)⟩) ?_))
 refine Jr 4 9 (I (Qi a.name a.value)) [(6,Sr a.name),(8,Sr a.value)] (fun X=>?_)
 exact Ji 9 (I (Qi a.name a.value)) (JaB G a.name a.value) Jp
 refine Jr 5 10 (Bo true) [(9,I (Qi a.name a.value))] (fun X=>?_)
 exact K7 10 (Bo (decide (Qi a.name a.value=0))) (Bo true) (by rw [h1]) Jp
 refine Jr 14 19 (Sr (Wb a.name a.value a.n)) [(11,Bo true),(14,Sr a.name),(16,Sr a.value),(18,U a.n)] (fun X=>?_)
 exact Ji 19 (Sr (Wb a.name a.value a.n)) (Jc8 G a.name w1 a.value w2 a.n) Jp
 refine Jr 17 22 (Bo (ZT key (Wb a.name a.value a.n) a.tag)) [(11,Bo true),(12,U key),(19,Sr (Wb a.name a.value a.n)),(21,U a.tag)] (fun X=>?_)
 exact Ji 22 (Bo (ZT key (Wb a.name a.value a.n) a.tag)) (Jf5 G key (Wb a.name a.value a.n) a.tag (Nat.le_trans (Jc7 a.name a.value a.n) (by decide))) Jp
 refine Ja (Jk (Jl [0] [Bo (ZT key (Wb a.name a.value a.n) a.tag)] (Jv (Jt.le_refl _) ?_)))
 have hf_:(ZK key a)=(ZT key (Wb a.name a.value a.n) a.tag):=by
  unfold ZK;simp_all [ZT]
 · (try rw [hf_]);(simp only [JM];done)
 have h1d:=h1
 try simp only [BB] at h1d
 refine KA [] (Ws [(0,Pt b1 0),(1,Sr a.name),(2,Pt b1 1),(3,Sr a.value),(4,I (Qi a.name a.value)),(5,Bo false),(6,Bo false),(7,undef),(8,undef),(9,undef),(10,undef),(11,undef),(12,undef),(13,undef),(14,undef),(15,undef),(16,undef),(17,undef),(18,Bo false),(19,Bo false)] (Kz [] [(0,0),(1,2),(2,0),(3,2),(6,0),(7,1),(8,1),(9,1),(10,1),(11,1),(12,1),(13,1),(14,1),(15,1),(16,1),(17,1),(18,0),(19,0)] [4,5] [(4,Bo false)] (List.forall_mem_cons.2 ⟨?_,(List.forall_mem_cons.2 ⟨?_,List.forall_mem_nil _⟩)⟩) ?_))
 refine Jr 4 9 (I (Qi a.name a.value)) [(6,Sr a.name),(8,Sr a.value)] (fun X=>?_)
 exact Ji 9 (I (Qi a.name a.value)) (JaB G a.name a.value) Jp
 refine Jr 5 10 (Bo false) [(9,I (Qi a.name a.value))] (fun X=>?_)
 exact K7 10 (Bo (decide (Qi a.name a.value=0))) (Bo false) (by rw [h1]) Jp
 refine Ja (Jk (Jl [0] [Bo false] (Jv (Jt.le_refl _) ?_)))
 have hf_:(ZK key a)=false:=by
  unfold ZK;simp_all [ZT]
 · (try rw [hf_]);(simp only [JM];done)
end Go.Proofs.YtnnlpbjdignhaaaGreatDoor
