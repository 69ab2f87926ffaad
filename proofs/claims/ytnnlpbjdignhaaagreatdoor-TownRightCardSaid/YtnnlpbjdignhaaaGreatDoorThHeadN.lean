import Derived.Test.YtnnlpbjdignhaaaGreatDoorThHead
import Derived.Test.YtnnlpbjdignhaaaGreatDoorThMark
import Derived.Test.YtnnlpbjdignhaaaGreatDoorThQueue
namespace Go.Proofs.YtnnlpbjdignhaaaGreatDoor
open Go.Tx
set_option linter.unusedVariables false
set_option linter.unusedSimpArgs false
theorem le48 {n:Nat} (h:n ≤ 140737488351232):n ≤ 140737488355328:=by omega
theorem Jld (h:JS):(Jbz h).1.length ≤ 33:=by
 unfold Jbz;split
 ·
  simp
 ·
  rw [JiM];exact Nat.le_refl _
theorem Jho (n:Int):(JaK n).length = 8:=JlN n
def JaO (h:JS):Int × Int:=if (Jbz h).2 ≠ 0 then (0,(Jbz h).2) else (Jf (Jbz h).1,0)
def JdN (h:JS) (root at_:Int):Int:=if JC h ≠ 0 then JC h else if h.epoch = 1000000 then 7 else if at_ < h.at_ then 4 else JC ⟨h.epoch + 1,root,(JaO h).1,at_⟩
def Jx (h:JS) (root at_:Int):JS × Int:=if JdN h root at_ ≠ 0 then (JcV,JdN h root at_) else (⟨h.epoch + 1,root,(JaO h).1,at_⟩,0)
theorem Jle (h:JS):(Jbz h).2 = JC h:=by unfold Jbz;split <;> simp_all
theorem Jd7 (h:JS):(JaO h).2 = JC h:=by unfold JaO;rw [Jle];split <;> simp_all
theorem JlY (h:JS):0 ≤ (JaO h).1 ∧ (JaO h).1 < 2305843009213693951:=by
 unfold JaO;split
 ·
  simp
 ·
  exact Jbn _
theorem JlZ {h:JS} (e:JC h = 0):Jbz h = (JeQ h,0):=by unfold Jbz;rw [if_neg (by omega)]
theorem Jl0 {h:JS} (e:JC h = 0):JaO h = (Jf (JeQ h),0):=by
 unfold JaO;rw [JlZ e];simp
theorem Jfx {h:JS} {root at_:Int} (e:(Jx h root at_).2 = 0):JC h = 0 ∧ h.epoch < 1000000 ∧ h.at_ ≤ at_ ∧ Jx h root at_ = (⟨h.epoch + 1,root,Jf (JeQ h),at_⟩,0) ∧ JC ⟨h.epoch + 1,root,Jf (JeQ h),at_⟩ = 0:=by
 unfold Jx at e ⊢
 split at e
 ·
  contradiction
 ·
  rename_i h1
  rw [if_neg h1]
  unfold JdN at h1
  by_cases e1:JC h = 0
  ·
   rw [if_neg (by omega)] at h1
   have hb:=JcW e1
   have hm:=Jl0 e1
   rw [hm] at h1 ⊢
   by_cases e2:h.epoch = 1000000
   ·
    rw [if_pos e2] at h1;simp at h1
   ·
    rw [if_neg e2] at h1
    by_cases e3:at_ < h.at_
    ·
     rw [if_pos e3] at h1;simp at h1
    ·
     rw [if_neg e3] at h1
     exact ⟨e1,by omega,by omega,rfl,by simpa using h1⟩
  ·
   rw [if_pos e1] at h1;omega
def Jl1:Jc5:=⟨[],[],0,0⟩
def JeB (key:Int) (s:List UInt8):Int:=Jf ((JaK key ++ s) ++ JaK key)
theorem Jp2 (k:Int) (s:List UInt8):0 ≤ JeB k s ∧ JeB k s < 18446744073709551616:=by have:=Jbn ((JaK k ++ s) ++ JaK k);unfold JeB;omega
def JbZ (name value:List UInt8) (n:Int):List UInt8:=JaK n ++ (Jek [name,value]).1
def JdI (key:Int) (s:List UInt8) (t:Int):Bool:=decide (JeB key s = t)
def JcE (key:Int) (name value:List UInt8) (n:Int):Jc5 × Int:=if Ja7 name value ≠ 0 then (Jl1,Ja7 name value) else (⟨name,value,n,JeB key (JbZ name value n)⟩,0)
def Jdx (key:Int) (a:Jc5):Bool:=decide (Ja7 a.name a.value = 0) && decide (JeB key (JbZ a.name a.value a.n) = a.tag)
theorem JgG (l:List (List UInt8)):(Jek l).1.length ≤ 600:=by
 unfold Jek
 split
 ·
  simp
 ·
  split
  ·
   rename_i h
   have:∀ (l:List (List UInt8)) (n:Nat),n ≤ 600 → Jhn n l = true → n + (JjS l).length ≤ 600:=by
    intro l
    induction l with
    | nil=>intro n h _;simp [JjS];exact h
    | cons p l ih =>
     intro n _ h
     unfold Jhn at h
     simp only [Bool.and_eq_true,decide_eq_true_eq] at h
     have:=ih _ h.1 h.2
     have e:(JjS (p :: l)).length = 2 + p.length + (JjS l).length:=by simp [JjS,putC];omega
     omega
   have:=this l 0 (by omega) h
   simp only;omega
  ·
   simp
theorem Jis (a b:List UInt8) (n:Int):(JbZ a b n).length ≤ 608:=by
 unfold JbZ;rw [List.length_append,Jho];have:=JgG [a,b];omega
theorem Jlf (G:Jt) (vs_h:List Value) (h:JS) (h_h:Jaz.R G vs_h h) :Con Tryz.prog 140 #[.agg vs_h.toArray] G [] (fun u G' L'=>u = .tuple #[U ((JaO h).1),I ((JaO h).2)]):=by
 obtain ⟨rfl,_,_,_,_⟩:=h_h
 refine JL Tryz.func140 16 [(0,.agg #[I h.epoch,U h.root,U h.prev,I h.at_])] rfl (fun w0 G0=>?_)
 refine Je (Jb ?_)
 refine Ju 1 #[I h.epoch,U h.root,U h.prev,I h.at_] 50 (fun b1=>?_)
 refine Jd [0,0] [(1,Pt b1 0)] (Jc (Ja (Je (Jb ?_))))
 refine Jd [2] [(7,.agg #[I h.epoch,U h.root,U h.prev,I h.at_])] ?_
 refine Ji 8 (.tuple #[Sr ((Jbz h).1),I ((Jbz h).2)]) (Jk5 h G) ?_
 refine Jd [0,0,0,0,0] [(4,Sr ((Jbz h).1)),(5,I ((Jbz h).2))] (Jc (Ja (Je ?_)))
 refine Jg [0,0] [(4,Sr ((Jbz h).1)),(5,I ((Jbz h).2)),(12,Bo (!decide ((Jbz h).2 = 0)))] ?_
 refine Jo (!decide ((Jbz h).2 = 0)) (fun h1=>?_) (fun h1=>?_)
 try simp only [BB] at h1
 refine Jg [0,0,0] [(2,U 0),(3,I ((Jbz h).2))] (Jk (Jh ?_))
 refine Jl [0,0] [U 0,I ((Jbz h).2)] (Jw (Jt.le_refl _) ?_)
 have hf_:(JaO h) = (0,((Jbz h).2)):=by
  unfold JaO;simp_all
 · (try rw [hf_]);(simp only [JM];done)
 try simp only [BB] at h1
 refine Jn (Ja (Je (Jb ?_)))
 refine Jd [0] [(14,Sr ((Jbz h).1))] ?_
 refine Ji 15 (U (Jf ((Jbz h).1))) (Jdo ((Jbz h).1) (le48 (Nat.le_trans (Jld h) (by decide))) G) ?_
 refine Jd [0,0] [(2,U (Jf ((Jbz h).1))),(3,I 0)] (Jc (Ja (Jk ?_)))
 refine Jl [0,0] [U (Jf ((Jbz h).1)),I 0] (Jw (Jt.le_refl _) ?_)
 have hf_:(JaO h) = ((Jf ((Jbz h).1)),0):=by
  unfold JaO;simp_all
 · (try rw [hf_]);(simp only [JM];done)
theorem JfW (G:Jt) (vs_h:List Value) (h:JS) (h_h:Jaz.R G vs_h h) (root:Int) (hw_root:rU root) (a:Int) (hw_a:rI a) :Con Tryz.prog 103 #[.agg vs_h.toArray,U root,I a] G [] (fun u G' L'=>u = .tuple #[.agg #[I (((Jx h root a).1).epoch),U (((Jx h root a).1).root),U (((Jx h root a).1).prev),I (((Jx h root a).1).at_)],I ((Jx h root a).2)]):=by
 obtain ⟨rfl,w1,w2,w3,w4⟩:=h_h
 refine JL Tryz.func103 46 [(0,.agg #[I h.epoch,U h.root,U h.prev,I h.at_]),(1,U root),(2,I a)] rfl (fun w0 G0=>?_)
 refine Je (Jb ?_)
 refine Ju 3 #[I h.epoch,U h.root,U h.prev,I h.at_] 50 (fun b1=>?_)
 refine Ju 6 #[I 0,U 0,U 0,I 0] 50 (fun b2=>?_)
 refine Jd [0] [(1,U root),(2,I a),(3,Pt b1 0),(6,Pt b2 0)] (Jc (Ja (Je (Jb ?_))))
 refine Jd [4] [(1,U root),(2,I a),(3,Pt b1 0),(6,Pt b2 0),(13,.agg #[I h.epoch,U h.root,U h.prev,I h.at_])] ?_
 refine Ji 14 (.tuple #[U ((JaO h).1),I ((JaO h).2)]) (Jlf G [I h.epoch,U h.root,U h.prev,I h.at_] h (⟨rfl,w1,w2,w3,w4⟩)) ?_
 refine Jd [0,0,0,0,0] [(1,U root),(2,I a),(3,Pt b1 0),(6,Pt b2 0),(8,U ((JaO h).1)),(9,I ((JaO h).2))] (Jc (Ja (Je (Jy ?_))))
 refine Jg [0,0,0] [(1,U root),(2,I a),(3,Pt b1 0),(6,Pt b2 0),(8,U ((JaO h).1)),(9,I ((JaO h).2)),(17,Bo (!decide ((JaO h).2 = 0)))] ?_
 refine Jo (!decide ((JaO h).2 = 0)) (fun h1=>?_) (fun h1=>?_)
 try simp only [BB] at h1
 refine Jg [0,0,3,0] [(6,Pt b2 0),(7,I ((JaO h).2))] (Jk (Js (Jh ?_)))
 refine Jl [0,0] [.agg #[I 0,U 0,U 0,I 0],I ((JaO h).2)] (Jw (Jt.le_refl _) ?_)
 have hf_:(Jx h root a) = ((⟨0,0,0,0⟩:JS),((JaO h).2)):=by
  (try rw [Jd7] at *);unfold Jx JdN JcV;grind
 · (try rw [hf_]);(simp only [JM];done)
 try simp only [BB] at h1
 refine Jg [0,4,0,0] [(1,U root),(2,I a),(3,Pt b1 0),(6,Pt b2 0),(8,U ((JaO h).1)),(22,Bo (decide (h.epoch = 1000000)))] ?_
 refine Jo (decide (h.epoch = 1000000)) (fun h2=>?_) (fun h2=>?_)
 try simp only [BB] at h2
 refine Jg [0,3,0] [(6,Pt b2 0),(7,I 7)] (Jk (Js (Jh ?_)))
 refine Jl [0,0] [.agg #[I 0,U 0,U 0,I 0],I 7] (Jw (Jt.le_refl _) ?_)
 have hf_:(Jx h root a) = ((⟨0,0,0,0⟩:JS),7):=by
  (try rw [Jd7] at *);unfold Jx JdN JcV;grind
 · (try rw [hf_]);(simp only [JM];done)
 try simp only [BB] at h2
 refine Jn (JK (Ja (Je (Jb ?_))))
 refine Jd [0,4,0,0,0,0,0] [(2,I a),(3,Pt b1 0),(6,Pt b2 0),(33,.agg #[I (IntKind.i64.wrap (h.epoch + 1)),U root,U ((JaO h).1),I a])] ?_
 have e1:IntKind.i64.wrap (h.epoch + 1) = h.epoch + 1:=IntWalk.i64_in _ (by have:=JcW (h:=h) (by rw [← Jd7];assumption);omega)
 refine J1 (fr':=[(2,I a),(3,Pt b1 0),(6,Pt b2 0),(33,.agg #[I (h.epoch + 1),U root,U ((JaO h).1),I a])]) (L':=[[Sg b2 0 [I 0,U 0,U 0,I 0]],[Sg b1 0 [I h.epoch,U h.root,U h.prev,I h.at_]]]) (by simp only [e1]) (by rfl) ?_
 clear e1
 refine Ju 10 #[I 0,U 0,U 0,I 0] 50 (fun b3=>?_)
 refine Jaa [3] [(2,I a),(3,Pt b1 0),(6,Pt b2 0),(10,Pt b3 0)] [[Sg b3 0 [I (h.epoch + 1),U root,U ((JaO h).1),I a]],[Sg b2 0 [I 0,U 0,U 0,I 0]],[Sg b1 0 [I h.epoch,U h.root,U h.prev,I h.at_]]] (Jc (Ja (Je ?_)))
 refine Jg [0,0,6,0] [(6,Pt b2 0),(10,Pt b3 0),(37,Bo (decide (a < h.at_)))] ?_
 refine Jo (decide (a < h.at_)) (fun h3=>?_) (fun h3=>?_)
 try simp only [BB] at h3
 refine Jg [0,5,0] [(6,Pt b2 0),(7,I 4)] (Jk (Jh ?_))
 refine Jl [1,0] [.agg #[I 0,U 0,U 0,I 0],I 4] (Jw (Jt.le_refl _) ?_)
 have hf_:(Jx h root a) = ((⟨0,0,0,0⟩:JS),4):=by
  (try rw [Jd7] at *);unfold Jx JdN JcV;grind
 · (try rw [hf_]);(simp only [JM];done)
 try simp only [BB] at h3
 refine Jn (Ja (Je (Je (Jb ?_))))
 refine Jd [2] [(6,Pt b2 0),(10,Pt b3 0),(39,.agg #[I (h.epoch + 1),U root,U ((JaO h).1),I a])] ?_
 refine Ji 40 (I (JC (⟨h.epoch + 1,root,(JaO h).1,a⟩:JS))) (Jdn (⟨h.epoch + 1,root,(JaO h).1,a⟩:JS) G) ?_
 refine Jd [0] [(6,Pt b2 0),(10,Pt b3 0),(11,I (JC (⟨h.epoch + 1,root,(JaO h).1,a⟩:JS)))] (Jc (Ja ?_))
 refine Jg [0,0] [(6,Pt b2 0),(10,Pt b3 0),(11,I (JC (⟨h.epoch + 1,root,(JaO h).1,a⟩:JS))),(42,Bo (!decide (JC (⟨h.epoch + 1,root,(JaO h).1,a⟩:JS) = 0)))] ?_
 refine Jo (!decide (JC (⟨h.epoch + 1,root,(JaO h).1,a⟩:JS) = 0)) (fun h4=>?_) (fun h4=>?_)
 try simp only [BB] at h4
 refine Jg [0,0,5,0] [(6,Pt b2 0),(7,I (JC (⟨h.epoch + 1,root,(JaO h).1,a⟩:JS)))] (Jk (Jh ?_))
 refine Jl [1,0] [.agg #[I 0,U 0,U 0,I 0],I (JC (⟨h.epoch + 1,root,(JaO h).1,a⟩:JS))] (Jw (Jt.le_refl _) ?_)
 have hf_:(Jx h root a) = ((⟨0,0,0,0⟩:JS),(JC (⟨h.epoch + 1,root,(JaO h).1,a⟩:JS))):=by
  (try rw [Jd7] at *);unfold Jx JdN JcV;grind
 · (try rw [hf_]);(simp only [JM];done)
 try simp only [BB] at h4
 refine Jn (Ja ?_)
 refine JcA [2,5,0] [(6,Pt b2 0),(7,I 0)] [[Sg b3 0 [I (h.epoch + 1),U root,U ((JaO h).1),I a]],[Sg b2 0 [I (h.epoch + 1),U root,U ((JaO h).1),I a]],[Sg b1 0 [I h.epoch,U h.root,U h.prev,I h.at_]]] ?_
 refine Jk ?_
 refine Jl [1,0] [.agg #[I (h.epoch + 1),U root,U ((JaO h).1),I a],I 0] (Jw (Jt.le_refl _) ?_)
 have hf_:(Jx h root a) = ((⟨h.epoch + 1,root,(JaO h).1,a⟩:JS),0):=by
  (try rw [Jd7] at *);unfold Jx JdN JcV;grind
 · (try rw [hf_]);(simp only [JM];done)
theorem JfX (G:Jt) (name:List UInt8) (value:List UInt8) :Con Tryz.prog 145 #[Sr name,Sr value] G [] (fun u G' L'=>u = I (Ja7 name value)):=by
 refine JL Tryz.func145 13 [(0,Sr name),(1,Sr value)] rfl (fun w0 G0=>?_)
 refine Jg [0] [(0,Sr name),(1,Sr value)] (Je (Jy (Je (Jb ?_))))
 refine Jd [0] [(1,Sr value),(6,Sr name)] ?_
 refine Ji 7 (Bo (JaC name)) (Jde G name) ?_
 refine Jd [0,0] [(1,Sr value),(5,Bo (!(JaC name)))] (Jc (Ja ?_))
 refine Jo (!(JaC name)) (fun h1=>?_) (fun h1=>?_)
 try simp only [BB] at h1
 refine Jg [0] [(4,I 3)] (Jk (Js (Jh ?_)))
 refine Jl [0] [I 3] (Jw (Jt.le_refl _) ?_)
 have hf_:(Ja7 name value) = 3:=by
  unfold Ja7;simp_all;try omega
 · (try rw [hf_]);(simp only [JM];done)
 try simp only [BB] at h1
 refine Jg [0,0,0,0] [(9,Bo (decide (((value).length:Int) > 20)))] ?_
 refine Jo (decide (((value).length:Int) > 20)) (fun h2=>?_) (fun h2=>?_)
 try simp only [BB] at h2
 refine Jg [0] [(4,I 2)] (Jk (Js (Jh ?_)))
 refine Jl [0] [I 2] (Jw (Jt.le_refl _) ?_)
 have hf_:(Ja7 name value) = 2:=by
  unfold Ja7;simp_all;try omega
 · (try rw [hf_]);(simp only [JM];done)
 try simp only [BB] at h2
 refine Jn (JK (Ja ?_))
 refine Jg [0] [(4,I 0)] (Jk ?_)
 refine Jl [0] [I 0] (Jw (Jt.le_refl _) ?_)
 have hf_:(Ja7 name value) = 0:=by
  unfold Ja7;simp_all;try omega
 · (try rw [hf_]);(simp only [JM];done)
theorem JkA (G:Jt) (key:Int) (s:List UInt8) (hs:s.length ≤ 1000000):Con Tryz.prog 177 #[U key,Sr s] G [] (fun u G' L'=>u = U (JeB key s)):=by
 refine JL Tryz.func177 13 [(0,U key),(1,Sr s)] rfl (fun w0 G0=>?_)
 refine Jg [0] [(0,U key),(1,Sr s)] (Je (Jb ?_))
 refine Jd [0] [(0,U key),(1,Sr s),(5,U key)] ?_
 refine Ji 6 (Sr (JaK key)) (JdF key G) ?_
 refine Jd [0] [(0,U key),(6,Sr (JaK key)),(7,Sr s)] ?_
 refine Jds 8 (JaK key) s (by simp only [List.length_append,Jho];omega) ?_
 refine Jd [0] [(8,Sr ((JaK key) ++ s)),(9,U key)] ?_
 refine Ji 10 (Sr (JaK key)) (JdF key G) ?_
 refine Jds 11 ((JaK key) ++ s) (JaK key) (by simp only [List.length_append,Jho];omega) ?_
 refine Ji 12 (U (Jf (((JaK key) ++ s) ++ (JaK key)))) (Jdo (((JaK key) ++ s) ++ (JaK key)) (le48 (by (simp;omega))) G) ?_
 refine Jd [0] [(4,U (Jf (((JaK key) ++ s) ++ (JaK key))))] (Jc (Ja (Jk ?_)))
 refine Jl [0] [U (Jf (((JaK key) ++ s) ++ (JaK key)))] (Jw (Jt.le_refl _) ?_)
 have hf_:(JeB key s) = (Jf (((JaK key) ++ s) ++ (JaK key))):=by
  rfl
 · (try rw [hf_]);(simp only [JM];done)
theorem Jlg (G:Jt) (key:Int) (s:List UInt8) (t:Int) (hs:s.length ≤ 1000000):Con Tryz.prog 146 #[U key,Sr s,U t] G [] (fun u G' L'=>u = Bo (JdI key s t)):=by
 refine JL Tryz.func146 12 [(0,U key),(1,Sr s),(2,U t)] rfl (fun w0 G0=>?_)
 refine Jg [0] [(0,U key),(1,Sr s),(2,U t)] (Je (Jb ?_))
 refine Jd [0,0] [(2,U t),(7,U key),(8,Sr s)] ?_
 refine Ji 9 (U (JeB key s)) (JkA G key s ‹_›) ?_
 refine Jd [0,0,0] [(6,Bo (decide (JeB key s = t)))] (Jc (Ja (Jk ?_)))
 refine Jl [0] [Bo (decide (JeB key s = t))] (Jw (Jt.le_refl _) ?_)
 have hf_:(JdI key s t) = (decide (JeB key s = t)):=by
  rfl
 · (try rw [hf_]);(simp only [JM];done)
theorem Jit (G:Jt) (name:List UInt8) (hw_name:(name).length ≤ 140737488351232) (value:List UInt8) (hw_value:(value).length ≤ 140737488351232) (n:Int) :Con Tryz.prog 147 #[Sr name,Sr value,U n] G [] (fun u G' L'=>u = Sr (JbZ name value n)):=by
 refine JL Tryz.func147 20 [(0,Sr name),(1,Sr value),(2,U n)] rfl (fun w0 G0=>?_)
 refine Jg [0] [(0,Sr name),(1,Sr value),(2,U n)] (Je (Jb ?_))
 refine Jd [0,0] [(2,U n),(10,Sr name),(11,Sr value)] ?_
 refine JaB 12 2 #[Sr name,Sr value] 9 (fun b1=>?_)
 refine JbH (b:=b1) (o:=0) (cs:=[Sr name,Sr value]) 0 (fun G1 hl1 hz1=>?_)
 have hs1:RS ES G1 (At b1 0) 2 [name,value]:=RS.lit [[Sr name],[Sr value]] [name,value] ⟨⟨rfl,hw_name⟩,⟨⟨rfl,hw_value⟩,trivial⟩⟩ hz1 (Nat.le_of_ble_eq_true rfl) (Nat.le_of_ble_eq_true rfl)
 refine Ji 13 (.tuple #[Sr ((Jek ([name,value])).1),I ((Jek ([name,value])).2)]) (JlW G1 (At b1 0) 2 ([name,value]) hs1) ?_
 refine Jd [0,0,0,0,0] [(2,U n),(7,Sr ((Jek ([name,value])).1))] (Jc (Ja (Je (Jb ?_))))
 refine Jd [0] [(7,Sr ((Jek ([name,value])).1)),(16,U n)] ?_
 refine Ji 17 (Sr (JaK n)) (JdF n G1) ?_
 refine Jd [0] [(17,Sr (JaK n)),(18,Sr ((Jek ([name,value])).1))] ?_
 refine Jds 19 (JaK n) ((Jek ([name,value])).1) (by have:=JgG [name,value];simp only [Jho];omega) ?_
 refine Jd [0] [(6,Sr ((JaK n) ++ ((Jek ([name,value])).1)))] (Jc (Ja (Jk ?_)))
 refine Jl [0] [Sr ((JaK n) ++ ((Jek ([name,value])).1))] (Jw hl1 ?_)
 have hf_:(JbZ name value n) = (JaK n) ++ ((Jek ([name,value])).1):=by
  rfl
 · (try rw [hf_]);(simp only [JM];done)
theorem Jm4 (G:Jt) (key:Int) (name:List UInt8) (hw_name:(name).length ≤ 140737488351232) (value:List UInt8) (hw_value:(value).length ≤ 140737488351232) (n:Int) (hw_n:rU n) :Con Tryz.prog 143 #[U key,Sr name,Sr value,U n] G [] (fun u G' L'=>u = .tuple #[.agg #[Sr (((JcE key name value n).1).name),Sr (((JcE key name value n).1).value),U (((JcE key name value n).1).n),U (((JcE key name value n).1).tag)],I ((JcE key name value n).2)] ∧ ((((JcE key name value n).1).name).length ≤ 140737488351232) ∧ ((((JcE key name value n).1).value).length ≤ 140737488351232) ∧ (rU (((JcE key name value n).1).n)) ∧ (rU (((JcE key name value n).1).tag)) ∧ L' = []):=by
 refine JL Tryz.func143 28 [(0,U key),(1,Sr name),(2,Sr value),(3,U n)] rfl (fun w0 G0=>?_)
 refine Je (Jb ?_)
 refine Ju 8 #[Sr ([]),Sr ([]),U 0,U 0] 83 (fun b1=>?_)
 refine Jd [0] [(0,U key),(1,Sr name),(2,Sr value),(3,U n),(8,Pt b1 0)] (Jc (Ja (Je (Je (Jb ?_)))))
 refine Jd [0,0] [(0,U key),(1,Sr name),(2,Sr value),(3,U n),(8,Pt b1 0),(11,Sr name),(12,Sr value)] ?_
 refine Ji 13 (I (Ja7 name value)) (JfX G name value) ?_
 refine Jd [0] [(0,U key),(1,Sr name),(2,Sr value),(3,U n),(8,Pt b1 0),(10,I (Ja7 name value))] (Jc (Ja ?_))
 refine Jg [0,0] [(0,U key),(1,Sr name),(2,Sr value),(3,U n),(8,Pt b1 0),(10,I (Ja7 name value)),(15,Bo (!decide (Ja7 name value = 0)))] ?_
 refine Jo (!decide (Ja7 name value = 0)) (fun h1=>?_) (fun h1=>?_)
 try simp only [BB] at h1
 refine Jg [0,0,3,0] [(8,Pt b1 0),(9,I (Ja7 name value))] (Jk (Jh ?_))
 have hf1:JcE key name value n = ((⟨[],[],0,0⟩:Jc5),Ja7 name value):=by
  unfold JcE Jl1;simp_all
 refine Jl [0,0] [.agg #[Sr ([]),Sr ([]),U 0,U 0],I (Ja7 name value)] (JY [] (.cons _ .slnil) (Jt.le_refl _) ?_)
 rw [hf1]
 try dsimp only
 exact ⟨rfl,(Nat.le_of_ble_eq_true rfl),(Nat.le_of_ble_eq_true rfl),(by omega),(by omega),rfl⟩
 try simp only [BB] at h1
 refine Jn (Ja (Je (Jb ?_)))
 refine Jd [0,0,0,0,0,0,0] [(8,Pt b1 0),(18,Sr name),(19,Sr value),(20,U n),(21,U key),(22,Sr name),(23,Sr value),(24,U n)] ?_
 refine Ji 25 (Sr (JbZ name value n)) (Jit G name hw_name value hw_value n) ?_
 refine Ji 26 (U (JeB key (JbZ name value n))) (JkA G key (JbZ name value n) (Nat.le_trans (Jis name value n) (by decide))) ?_
 refine Jaa [0,3,0] [(8,Pt b1 0),(9,I 0)] [[Sg b1 0 [Sr name,Sr value,U n,U (JeB key (JbZ name value n))]]] (Jc (Ja (Jk ?_)))
 have hf2:JcE key name value n = ((⟨name,value,n,JeB key (JbZ name value n)⟩:Jc5),0):=by
  unfold JcE Jl1;simp_all
 refine Jl [0,0] [.agg #[Sr name,Sr value,U n,U (JeB key (JbZ name value n))],I 0] (JY [] (.cons _ .slnil) (Jt.le_refl _) ?_)
 rw [hf2]
 try dsimp only
 exact ⟨rfl,hw_name,hw_value,hw_n,(Jp2 _ _),rfl⟩
theorem Jlh (G:Jt) (key:Int) (vs_a:List Value) (a:Jc5) (h_a:JbL.R G vs_a a) :Con Tryz.prog 108 #[U key,.agg vs_a.toArray] G [] (fun u G' L'=>u = Bo (Jdx key a)):=by
 obtain ⟨rfl,w1,w2,_,_⟩:=h_a
 refine JL Tryz.func108 24 [(0,U key),(1,.agg #[Sr a.name,Sr a.value,U a.n,U a.tag])] rfl (fun w0 G0=>?_)
 refine Je (Jb ?_)
 refine Ju 3 #[Sr a.name,Sr a.value,U a.n,U a.tag] 83 (fun b1=>?_)
 refine Jd [0] [(0,U key),(3,Pt b1 0)] (Jc (Ja (Je ?_)))
 rcases Bool.eq_false_or_eq_true (decide (Ja7 a.name a.value = 0)) with h1 | h1
 have h1d:=h1
 try simp only [BB] at h1d
 refine Jau [] ?_
 refine Jb6 [(0,Pt b1 0),(1,Sr a.name),(2,Pt b1 1),(3,Sr a.value),(4,I (Ja7 a.name a.value)),(5,Bo true),(6,Bo true),(7,U key),(8,Pt b1 0),(9,Sr a.name),(10,Pt b1 1),(11,Sr a.value),(12,Pt b1 2),(13,U a.n),(14,Sr (JbZ a.name a.value a.n)),(15,Pt b1 3),(16,U a.tag),(17,Bo (JdI key (JbZ a.name a.value a.n) a.tag)),(18,Bo (JdI key (JbZ a.name a.value a.n) a.tag)),(19,Bo (JdI key (JbZ a.name a.value a.n) a.tag))] ?_
 refine Jav [] [(0,0),(1,2),(2,0),(3,2),(6,0),(7,0),(8,0),(9,2),(10,0),(11,2),(12,0),(13,2),(15,0),(16,2),(18,0),(19,0)] [4,5,14,17] [(4,Bo (JdI key (JbZ a.name a.value a.n) a.tag))] (List.forall_mem_cons.2 ⟨?_,(List.forall_mem_cons.2 ⟨?_,(List.forall_mem_cons.2 ⟨?_,(List.forall_mem_cons.2 ⟨?_,List.forall_mem_nil _⟩)⟩)⟩)⟩) ?_
 refine Jq 4 9 (I (Ja7 a.name a.value)) [(6,Sr a.name),(8,Sr a.value)] (fun X=>?_)
 exact Ji 9 (I (Ja7 a.name a.value)) (JfX G a.name a.value) Jm
 refine Jq 5 10 (Bo true) [(9,I (Ja7 a.name a.value))] (fun X=>?_)
 exact JaI 10 (Bo (decide (Ja7 a.name a.value = 0))) (Bo true) (by rw [h1]) Jm
 refine Jq 14 19 (Sr (JbZ a.name a.value a.n)) [(11,Bo true),(14,Sr a.name),(16,Sr a.value),(18,U a.n)] (fun X=>?_)
 exact Ji 19 (Sr (JbZ a.name a.value a.n)) (Jit G a.name w1 a.value w2 a.n) Jm
 refine Jq 17 22 (Bo (JdI key (JbZ a.name a.value a.n) a.tag)) [(11,Bo true),(12,U key),(19,Sr (JbZ a.name a.value a.n)),(21,U a.tag)] (fun X=>?_)
 exact Ji 22 (Bo (JdI key (JbZ a.name a.value a.n) a.tag)) (Jlg G key (JbZ a.name a.value a.n) a.tag (Nat.le_trans (Jis a.name a.value a.n) (by decide))) Jm
 refine Ja (Jk ?_)
 refine Jl [0] [Bo (JdI key (JbZ a.name a.value a.n) a.tag)] (Jw (Jt.le_refl _) ?_)
 have hf_:(Jdx key a) = (JdI key (JbZ a.name a.value a.n) a.tag):=by
  unfold Jdx;simp_all [JdI]
 · (try rw [hf_]);(simp only [JM];done)
 have h1d:=h1
 try simp only [BB] at h1d
 refine Jau [] ?_
 refine Jb6 [(0,Pt b1 0),(1,Sr a.name),(2,Pt b1 1),(3,Sr a.value),(4,I (Ja7 a.name a.value)),(5,Bo false),(6,Bo false),(7,undef),(8,undef),(9,undef),(10,undef),(11,undef),(12,undef),(13,undef),(14,undef),(15,undef),(16,undef),(17,undef),(18,Bo false),(19,Bo false)] ?_
 refine Jav [] [(0,0),(1,2),(2,0),(3,2),(6,0),(7,1),(8,1),(9,1),(10,1),(11,1),(12,1),(13,1),(14,1),(15,1),(16,1),(17,1),(18,0),(19,0)] [4,5] [(4,Bo false)] (List.forall_mem_cons.2 ⟨?_,(List.forall_mem_cons.2 ⟨?_,List.forall_mem_nil _⟩)⟩) ?_
 refine Jq 4 9 (I (Ja7 a.name a.value)) [(6,Sr a.name),(8,Sr a.value)] (fun X=>?_)
 exact Ji 9 (I (Ja7 a.name a.value)) (JfX G a.name a.value) Jm
 refine Jq 5 10 (Bo false) [(9,I (Ja7 a.name a.value))] (fun X=>?_)
 exact JaI 10 (Bo (decide (Ja7 a.name a.value = 0))) (Bo false) (by rw [h1]) Jm
 refine Ja (Jk ?_)
 refine Jl [0] [Bo false] (Jw (Jt.le_refl _) ?_)
 have hf_:(Jdx key a) = false:=by
  unfold Jdx;simp_all [JdI]
 · (try rw [hf_]);(simp only [JM];done)
end Go.Proofs.YtnnlpbjdignhaaaGreatDoor
