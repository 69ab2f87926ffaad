import Derived.Test.YtnnlpbjdignhaaaGreatDoorTcTree
namespace Go.Proofs.YtnnlpbjdignhaaaGreatDoor
open Go.Tx
set_option linter.unusedVariables false
set_option linter.unusedSimpArgs false
def Jh2 (x:JV):List UInt8:=(Yw [x.name,x.value]).1
def KK (l:List JV):List UInt8:=if l.length=0 then [0] else [1]++(l.map Jh2).flatten
theorem Jll (x:JV):(Jh2 x).length≤600:=Jbg _
theorem Jg4 (l:List JV):((l.map Jh2).flatten).length≤600*l.length:=by
 induction l with
 | nil=>simp
 | cons x l ih=>simp only [List.map_cons,List.flatten_cons,List.length_append,List.length_cons];have:=Jll x;omega
theorem Jav {l:List JV} (h:l.length≤24):(KK l).length≤14401:=by
 unfold KK;split
 ·
  simp
 ·
  rw [List.length_append];have:=Jg4 l;simp only [List.length_cons,List.length_nil];omega
theorem Jj4 {l:List JV} {i:Nat} {x:JV} (h:l[i]? = some x):([1]++((l.take i).map Jh2).flatten)++(Yw [x.name,x.value]).1=[1]++((l.take (i+1)).map Jh2).flatten:=by rw [List.take_add_one,h];simp [Jh2]
def entZ:JV:=⟨[],[]⟩
def Jh3 (l:List JV):JV:=l[0]?.getD entZ
def Jlm (l:List JV):JV:=l[l.length-1]?.getD entZ
theorem JbK {l:List JV} {x:JV} (h:l[0]? = some x):x=Jh3 l:=by unfold Jh3;rw [h];rfl
theorem JcA {l:List JV} {x:JV} (h:l[l.length-1]? = some x):x=Jlm l:=by unfold Jlm;rw [h];rfl
def Jw (l:List JV):List UInt8×Int:=if Kg l ≠ 0 then ([],Kg l) else if 0<(l.length:Int)∧¬ way (Jh3 l).name=way (Jlm l).name then ([],3) else (KK l,0)
theorem Zn (l:List JV):(Jw l).1.length≤14401:=by
 unfold Jw;split
 ·
  simp
 split
 ·
  simp
 ·
  rename_i h _;exact Jav (KJ.1 (Decidable.not_not.1 h)).len
theorem Jf3:Jw []=([0],0):=by decide +kernel
def VK (x:JV) (w:List UInt8):Bool:=!(way x.name == w)
def Jaw (m:Int):Bool:=decide (m ≥ 2305843009213693951)
def Qs (p:Wy):Int:=if Kt p.name=false then 3 else if Kg p.entries ≠ 0 then Kg p.entries else if ((p.entries.any fun x0=>VK x0 (way p.name))=true∨¬ (p.sides.length:Int)=16)∨(p.sides.any fun x0=>Jaw x0)=true then 3 else 0
def Jd1:List UInt8:=(Jw []).1
def Jex (a b:Int):List UInt8:=if a=Jf Jd1∧b=Jf Jd1 then Jd1 else Kx 2 a b
def YU (w:List UInt8) (i:Nat) (s:List UInt8) (side:Int):List UInt8:=if w[15-i]? = some 49 then Jex side (Jf s) else Jex (Jf s) side
def V5 (w:List UInt8):Nat→List UInt8→List Int→List (List UInt8)
 | _,s,[]=>[s]
 | i,s,q::qs=>s::V5 w (i+1) (YU w i s q) qs
theorem Zo (w:List UInt8):∀ (qs:List Int) (i:Nat) (s:List UInt8),(V5 w i s qs).length=qs.length+1
 | [],_,_=>rfl
 | q::qs,i,s=>by show (V5 w (i+1) _ qs).length+1=_;rw [Zo w qs];rfl
theorem Jh4 (w:List UInt8) (qs:List Int) (i:Nat) (s:List UInt8):(V5 w i s qs)[0]? = some s:=by cases qs <;> rfl
theorem Jh5 (w:List UInt8) (qs:List Int) (i:Nat) (s:List UInt8):[s]=(V5 w i s qs).take 1:=by cases qs <;> rfl
theorem JcB (w:List UInt8):∀ (qs:List Int) (i k:Nat) (s a:List UInt8) (q:Int),(V5 w i s qs)[k]? = some a→qs[k]? = some q→(V5 w i s qs)[k+1]? = some (YU w (i+k) a q)
 | [],_,_,_,_,_,_,h=>by simp at h
 | q::qs,i,0,s,a,q',h1,h2=>by
  have h1:some s=some a:=h1
  have h2:some q=some q':=h2
  rw [← Option.some.inj h1,← Option.some.inj h2]
  exact Jh4 w qs (i+1) _
 | q::qs,i,k+1,s,a,q',h1,h2=>by
  have:=JcB w qs (i+1) k (YU w i s q) a q' h1 h2
  rw [show i+(k+1)=i+1+k by omega];exact this
theorem YD {w:List UInt8} {qs:List Int} {s0 s:List UInt8} {xo:List (List UInt8)} {i:Nat} {q:Int} (ho:xo=(V5 w 0 s0 qs).take (i+1)) (hs:(V5 w 0 s0 qs)[i]? = some s) (hq:qs[i]? = some q):xo++[YU w i s q]=(V5 w 0 s0 qs).take (i+1+1)∧(V5 w 0 s0 qs)[i+1]? = some (YU w i s q):=by
 have:=JcB w qs 0 i s0 s q hs hq
 rw [Nat.zero_add] at this
 refine ⟨?_,this⟩
 rw [ho]
 conv=>rhs;rw [List.take_add_one,this]
 rfl
def KT (p:Wy):List (List UInt8)×Int:=if Qs p ≠ 0 then ([],Qs p) else (V5 (way p.name) 0 (Jw p.entries).1 p.sides,0)
theorem YY {name:List UInt8} (h:Kt name=true):(way name).length=16:=by unfold way Ke;rw [if_neg (by rw [h];simp)];exact Vk name
structure JbZ (p:Wy):Prop where
 name:Kt p.name=true
 ents:QP p.entries
 ways:∀ x∈p.entries,way x.name=way p.name
 sides:p.sides.length=16
 marks:∀ m∈p.sides,m<2305843009213693951
theorem QM {p:Wy}:Qs p=0 ↔ JbZ p:=by
 unfold Qs
 constructor
 ·
  intro h
  split at h
  ·
   cases h
  split at h
  ·
   contradiction
  split at h
  ·
   cases h
  ·
   rename_i h1 h2 h3
   refine ⟨by simpa using h1,KJ.1 (Decidable.not_not.1 h2),fun x hx=>?_,?_,fun m hm=>?_⟩
   ·
    apply Classical.byContradiction;intro hc
    exact h3 (.inl (.inl (List.any_eq_true.2 ⟨x,hx,by unfold VK;simpa using hc⟩)))
   ·
    apply Classical.byContradiction;intro hc
    exact h3 (.inl (.inr (by omega)))
   ·
    apply Classical.byContradiction;intro hc
    exact h3 (.inr (List.any_eq_true.2 ⟨m,hm,by unfold Jaw;simp;omega⟩))
 ·
  rintro ⟨h1,h2,h3,h4,h5⟩
  rw [if_neg (by rw [h1];simp),if_neg (by have:=KJ.2 h2;omega),if_neg]
  rintro ((hc | hc) | hc)
  ·
   obtain ⟨x,hx,e⟩:=List.any_eq_true.1 hc
   unfold VK at e;simp at e
   exact e (h3 x hx)
  ·
   omega
  ·
   obtain ⟨m,hm,e⟩:=List.any_eq_true.1 hc
   have:=h5 m hm
   unfold Jaw at e;simp at e;omega
theorem Jdx {a b:Int} (h:(if b > a then b else a)=Jf (Jw []).1∧a=b):Jex a b=(Jw []).1:=by
 unfold Jex Jd1;obtain ⟨h1,rfl⟩:=h;rw [if_pos];split at h1 <;> exact ⟨h1,h1⟩
theorem Jdy {a b:Int} (h:¬ (if b > a then b else a)=Jf (Jw []).1∨¬ a=b):Jex a b=Kx 2 a b:=by
 unfold Jex Jd1;rw [if_neg];rintro ⟨rfl,h2⟩
 rcases h with h | h
 ·
  exact h (by split <;> omega)
 ·
  exact h h2.symm
theorem Jdz {w s:List UInt8} {i k:Nat} {q:Int} {y:UInt8} (h:15-i=k) (hy:w[k]? = some y) (e:(y.toNat:Int)=49):YU w i s q=Jex q (Jf s):=by
 have:y=49:=Jmo.1 e
 unfold YU;rw [h,hy,this,if_pos rfl]
theorem JdA {w s:List UInt8} {i k:Nat} {q:Int} {y:UInt8} (h:15-i=k) (hy:w[k]? = some y) (e:¬ (y.toNat:Int)=49):YU w i s q=Jex (Jf s) q:=by
 unfold YU;rw [h,hy,if_neg]
 intro hc;apply e;rw [Option.some.inj hc];rfl
theorem Vn (G:Jt) (a_l:Option Addr) (c_l:Nat) (l:List JV) (h_l:RS Qo G a_l c_l l) (h24:l.length≤24):QF Tryz.prog 172 #[Sl a_l l.length c_l] G [] (fun u G' L'=>u=Sr (KK l)):=by
 refine JJ Tryz.func172 35 [(0,Sl a_l l.length c_l)] rfl (fun w0 G0=>?_)
 refine Jg [0] [(0,Sl a_l l.length c_l)] (Je (Jg [0,0,0] [(0,Sl a_l l.length c_l),(10,Bo (decide ((l.length:Int)=0)))] (Jo (decide ((l.length:Int)=0)) (fun h1=>?_) (fun h1=>?_))))
 try simp only [BB] at h1
 refine Je (Jb (KH 11 1 #[Y 0] 5 (fun b1=>Jad (b:=b1) (off:=0) (len:=1) (cap:=1) (cs:=List.map (Value.int .u8) [0]) 12 0 [0] rfl (Vu (ns:=[0]) rfl) (Jd [0] [(2,Sr (([0]:List Int).map fun n=>UInt8.ofNat n.toNat))] (Jc (Ja (Jk (Jh (Jl [0] [Sr (([0]:List Int).map fun n=>UInt8.ofNat n.toNat)] (Jv (Jt.le_refl _) ?_))))))))))
 have hf_:(KK l)=([0]:List Int).map fun n=>UInt8.ofNat n.toNat:=by
  unfold KK;(rw [if_pos (by omega)];rfl)
 · (try rw [hf_]);(simp only [JL];done)
 try simp only [BB] at h1
 refine Jm (Ja (Je (Jb (KH 13 1 #[Y 1] 5 (fun b2=>Jad (b:=b2) (off:=0) (len:=1) (cap:=1) (cs:=List.map (Value.int .u8) [1]) 14 0 [1] rfl (Vu (ns:=[1]) rfl) (Jd [0] [(0,Sl a_l l.length c_l),(3,Sr (([1]:List Int).map fun n=>UInt8.ofNat n.toNat))] (Jc (Ja (Je (Jg [0,0,0] [(3,Sr (([1]:List Int).map fun n=>UInt8.ofNat n.toNat)),(15,Sl a_l l.length c_l),(16,I (l.length:Int)),(17,I 0)] (Jz ?_)))))))))))
 have hlm_h_l:l.length≤9223372036854775807:=Nat.le_trans (h_l).le (h_l).max
 refine Qc (σ:=Nat×List UInt8×Jt) (fun q_=>(Jt.le G q_.2.2)∧(q_.1≤l.length)∧(q_.2.1=[1]++((l.take q_.1).map Jh2).flatten)) (fun q_=>[(3,Sr q_.2.1),(15,Sl a_l l.length c_l),(16,I (l.length:Int)),(17,I (q_.1:Int))]) (fun q_=>q_.2.2) (fun q_=>[[Sg b2 0 [Y 1]]]) (fun q_=>l.length-q_.1) (0,([1]:List Int).map fun n=>UInt8.ofNat n.toNat,G) ⟨(Jt.le_refl _),(by (try dsimp only);exact Nat.zero_le _),(by (try dsimp only);simp)⟩ (fun q_ hs=>?_)
 obtain ⟨i,o,g⟩:=q_
 obtain ⟨hle,hi,ho⟩:=hs
 dsimp only at hle hi ho
 refine KQ (fr':=[(3,Sr o),(15,Sl a_l l.length c_l),(16,I (l.length:Int)),(17,I (i:Int))]) (L':=[[Sg b2 0 [Y 1]]]) rfl rfl (Jg [0] [(3,Sr o),(15,Sl a_l l.length c_l),(16,I (l.length:Int)),(17,I (i:Int)),(18,Bo (decide ((i:Int)<(l.length:Int))))] (Je (Jo (decide ((i:Int)<(l.length:Int))) (fun h2=>?_) (fun h2=>?_))))
 try simp only [BB] at h2
 refine Jm (Ja (Je (Jz (Je (Jb ?_)))))
 obtain ⟨b3,o1,rfl⟩:=RS.addr (h_l.mono hle) (k:=i) (by omega)
 obtain ⟨x1,hx1⟩:=Wh (l:=l) (k:=i) (by omega)
 obtain ⟨_,⟨rfl,w1,w2⟩,hc1⟩:=RS.get (h_l.mono hle) hx1
 refine Kh (b:=b3) (off:=o1) (len:=l.length) (cap:=c_l) (ik:=.i64) 19 94 2 i (by omega) (Ka 20 94 (cs:=[Sr x1.name,Sr x1.value]) 0 (.agg #[Sr x1.name,Sr x1.value]) hc1 (Ju 5 #[Sr ([]),Sr ([])] 94 (fun b4=>Kd [3] [(3,Sr o),(5,Pt b4 0),(15,Sl (At b3 o1) l.length c_l),(16,I (l.length:Int)),(17,I (i:Int))] [[Sg b4 0 [Sr x1.name,Sr x1.value]],[Sg b2 0 [Y 1]]] (Jc (Ja (Je (Jb (Jd [0,2,0,2] [(3,Sr o),(15,Sl (At b3 o1) l.length c_l),(16,I (l.length:Int)),(17,I (i:Int)),(23,Sr x1.name),(25,Sr x1.value)] (KH 26 2 #[Sr x1.name,Sr x1.value] 9 (fun b5=>QQ (b:=b5) (o:=0) (cs:=[Sr x1.name,Sr x1.value]) 0 (fun G1 hl1 hz1=>?_)))))))))))
 have hs1:RS ES G1 (At b5 0) 2 [x1.name,x1.value]:=RS.lit [[Sr x1.name],[Sr x1.value]] [x1.name,x1.value] ⟨⟨rfl,w1⟩,⟨⟨rfl,w2⟩,trivial⟩⟩ hz1 (Nat.le_of_ble_eq_true rfl) (Nat.le_of_ble_eq_true rfl)
 refine Ji 27 (.tuple #[Sr ((Yw ([x1.name,x1.value])).1),I ((Yw ([x1.name,x1.value])).2)]) (JgL G1 (At b5 0) 2 ([x1.name,x1.value]) hs1) (Jd [0,0,0,0,0] [(3,Sr o),(6,Sr ((Yw ([x1.name,x1.value])).1)),(15,Sl (At b3 o1) l.length c_l),(16,I (l.length:Int)),(17,I (i:Int))] (Jc (Ja (Jb (Jd [0,0] [(3,Sr o),(15,Sl (At b3 o1) l.length c_l),(16,I (l.length:Int)),(17,I (i:Int)),(30,Sr o),(31,Sr ((Yw ([x1.name,x1.value])).1))] (ZB 32 o ((Yw ([x1.name,x1.value])).1) (by have q_:=congrArg List.length ho;have q1_:=Jg4 (l.take i);have q2_:=Jbg [x1.name,x1.value];rw [List.length_take] at q1_;simp only [List.length_append,List.length_cons,List.length_nil] at q_;omega) (Jd [0] [(3,Sr (o++((Yw ([x1.name,x1.value])).1))),(15,Sl (At b3 o1) l.length c_l),(16,I (l.length:Int)),(17,I (i:Int))] (Jc (JM (Ja (Jb (Jd [0,0] [(3,Sr (o++((Yw ([x1.name,x1.value])).1))),(15,Sl (At b3 o1) l.length c_l),(16,I (l.length:Int)),(17,I (IntKind.i64.wrap ((i:Int)+1)))] ?_))))))))))))
 have e1:IntKind.i64.wrap ((i:Int)+1)=(i:Int)+1:=IntWalk.i64_in _ (by omega)
 refine J3 (fr':=[(3,Sr (o++((Yw ([x1.name,x1.value])).1))),(15,Sl (At b3 o1) l.length c_l),(16,I (l.length:Int)),(17,I ((i:Int)+1))]) (L':=[[],[Sg b4 0 [Sr x1.name,Sr x1.value]],[Sg b2 0 [Y 1]]]) (by simp only [e1]) (by rfl) ?_
 clear e1
 exact Jc (Q4 [[Sg b2 0 [Y 1]]] (.cons _ (.cons _ (.cons_cons _ .slnil))) (Qg (i+1,o++((Yw ([x1.name,x1.value])).1),G1) ⟨(Jt.le_trans hle hl1),(by omega),(by (try dsimp only);rw [ho];exact Jj4 hx1)⟩ (by (try dsimp only);omega)))
 try simp only [BB] at h2
 refine K0 (J2 (Kf (JU (Ja (Jg [0,0] [(2,Sr o)] (Jk (Jl [0] [Sr o] (Jv hle ?_))))))))
 have hf_:(KK l)=o:=by
  unfold KK;(rw [if_neg (by omega),ho,List.take_of_length_le (by omega)])
 · (try rw [hf_]);(simp only [JL];done)
theorem Jb0 (G:Jt) (a_l:Option Addr) (c_l:Nat) (l:List JV) (h_l:RS Qo G a_l c_l l) :QF Tryz.prog 198 #[Sl a_l l.length c_l] G [] (fun u G' L'=>u=.tuple #[Sr ((Jw l).1),I ((Jw l).2)]):=by
 refine JJ Tryz.func198 31 [(0,Sl a_l l.length c_l)] rfl (fun w0 G0=>?_)
 refine Jg [0,0] [(0,Sl a_l l.length c_l)] (Je (Je (Jb (Jd [0] [(0,Sl a_l l.length c_l),(5,Sl a_l l.length c_l)] (Ji 6 (I (Kg l)) (Yr G a_l c_l l h_l) (Jd [0] [(0,Sl a_l l.length c_l),(4,I (Kg l))] (Jc (Ja (Jg [0,0] [(0,Sl a_l l.length c_l),(4,I (Kg l)),(8,Bo (!decide (Kg l=0)))] (Jo (!decide (Kg l=0)) (fun h1=>?_) (fun h1=>?_)))))))))))
 try simp only [BB] at h1
 refine Jg [0,0,0] [(2,Sr ([])),(3,I (Kg l))] (Jk (Jh (Jl [0,0] [Sr ([]),I (Kg l)] (Jv (Jt.le_refl _) ?_))))
 have hf_:(Jw l)=([],(Kg l)):=by
  unfold Jw;(rw [if_pos ‹_›];done)
 · (try rw [hf_]);(simp only [JL];done)
 try simp only [BB] at h1
 refine Jm (Ja (Je (Je ?_)))
 rcases Bool.eq_false_or_eq_true (decide ((l.length:Int) > 0)) with h2 | h2
 have h2d:=h2
 try simp only [BB] at h2d
 obtain ⟨b1,o1,rfl⟩:=RS.addr h_l (k:=0) (by omega)
 obtain ⟨x1,hx1⟩:=Wh (l:=l) (k:=0) (by omega)
 obtain ⟨_,⟨rfl,w1,_⟩,hc1⟩:=RS.get h_l hx1
 have e1:IntKind.i64.wrap ((l.length:Int)-1)=((l.length-1:Nat):Int):=(IntWalk.i64_in _ (by (have q_:=(KJ.1 ‹_›).len;omega))).trans (show (l.length:Int)-1=((l.length-1:Nat):Int) by omega)
 obtain ⟨x2,hx2⟩:=Wh (l:=l) (k:=l.length-1) (by omega)
 obtain ⟨_,⟨rfl,w3,_⟩,hc2⟩:=RS.get h_l hx2
 refine KB [] (Wr [(0,Sl (At b1 o1) l.length c_l),(1,I (l.length:Int)),(2,Bo true),(3,Bo true),(4,Sl (At b1 o1) l.length c_l),(5,Pt b1 (o1+0*2)),(6,Pt b1 (o1+0*2)),(7,Sr x1.name),(8,Sr (way x1.name)),(9,Sl (At b1 o1) l.length c_l),(10,Sl (At b1 o1) l.length c_l),(11,I (l.length:Int)),(12,I ((l.length-1:Nat):Int)),(13,Pt b1 (o1+(l.length-1)*2)),(14,Pt b1 (o1+(l.length-1)*2)),(15,Sr x2.name),(16,Sr (way x2.name)),(17,Bo (!((B (way x1.name)).toList == (B (way x2.name)).toList))),(18,Bo (!((B (way x1.name)).toList == (B (way x2.name)).toList)))] (KA [] [(0,0),(1,0),(3,0),(4,0),(6,0),(9,0),(10,0),(11,0),(14,0),(17,0),(18,0)] [2,5,7,8,12,13,15,16] [(0,Sl (At b1 o1) l.length c_l),(28,Bo (!((B (way x1.name)).toList == (B (way x2.name)).toList)))] (List.forall_mem_cons.2 ⟨?_,(List.forall_mem_cons.2 ⟨?_,(List.forall_mem_cons.2 ⟨?_,(List.forall_mem_cons.2 ⟨?_,(List.forall_mem_cons.2 ⟨?_,(List.forall_mem_cons.2 ⟨?_,(List.forall_mem_cons.2 ⟨?_,(List.forall_mem_cons.2 ⟨?_,List.forall_mem_nil _⟩)⟩)⟩)⟩)⟩)⟩)⟩)⟩) ?_))
 refine Jr 2 12 (Bo true) [(11,I (l.length:Int))] (fun X=>?_)
 exact K6 12 (Bo (decide ((l.length:Int) > 0))) (Bo true) (by rw [h2]) Jp
 refine Jr 5 15 (Pt b1 (o1+0*2)) [(13,Bo true),(14,Sl (At b1 o1) l.length c_l)] (fun X=>?_)
 exact Kh (b:=b1) (off:=o1) (len:=l.length) (cap:=c_l) (ik:=.i64) 15 94 2 0 (by omega) Jp
 refine Jr 7 17 (Sr x1.name) [(13,Bo true),(16,Pt b1 (o1+0*2))] (fun X=>?_)
 exact Ka 17 9 (cs:=[Sr x1.name,Sr x1.value]) 0 (Sr x1.name) hc1 Jp
 refine Jr 8 18 (Sr (way x1.name)) [(13,Bo true),(17,Sr x1.name)] (fun X=>?_)
 exact Ji 18 (Sr (way x1.name)) (JbX G x1.name w1) Jp
 refine Jr 12 22 (I ((l.length-1:Nat):Int)) [(13,Bo true),(21,I (l.length:Int))] (fun X=>?_)
 exact K6 22 (I (IntKind.i64.wrap ((l.length:Int)-1))) (I ((l.length-1:Nat):Int)) (by simp only [e1]) Jp
 refine Jr 13 23 (Pt b1 (o1+(l.length-1)*2)) [(13,Bo true),(19,Sl (At b1 o1) l.length c_l),(22,I ((l.length-1:Nat):Int))] (fun X=>?_)
 exact Kh (b:=b1) (off:=o1) (len:=l.length) (cap:=c_l) (ik:=.i64) 23 94 2 (l.length-1) (by omega) Jp
 refine Jr 15 25 (Sr x2.name) [(13,Bo true),(24,Pt b1 (o1+(l.length-1)*2))] (fun X=>?_)
 exact Ka 25 9 (cs:=[Sr x2.name,Sr x2.value]) 0 (Sr x2.name) hc2 Jp
 refine Jr 16 26 (Sr (way x2.name)) [(13,Bo true),(25,Sr x2.name)] (fun X=>?_)
 exact Ji 26 (Sr (way x2.name)) (JbX G x2.name w3) Jp
 refine JcU (fr':=[(0,Sl (At b1 o1) l.length c_l),(28,Bo (!(way x1.name == way x2.name)))]) (L':=[]) (by simp only [Za]) (by rfl) (Ja (Jo (!(way x1.name == way x2.name)) (fun h3=>?_) (fun h3=>?_)))
 try simp only [BB] at h3
 refine Jg [0,0] [(2,Sr ([])),(3,I 3)] (Jk (Jh (Jl [0,0] [Sr ([]),I 3] (Jv (Jt.le_refl _) ?_))))
 have hf_:(Jw l)=([],3):=by
  unfold Jw;(have hf_:=JbK hx1;(have hl_:=JcA hx2;subst hf_;subst hl_;rw [if_neg (by omega)];(rw [if_pos (by simp_all)];done)))
 · (try rw [hf_]);(simp only [JL];done)
 try simp only [BB] at h3
 refine Jm (Ja (Je (Jb (Jd [0] [(29,Sl (At b1 o1) l.length c_l)] (Ji 30 (Sr (KK l)) (Vn G (At b1 o1) c_l l h_l (by exact (KJ.1 ‹_›).len)) (Jd [0,0] [(2,Sr (KK l)),(3,I 0)] (Jc (Ja (Jk (Jl [0,0] [Sr (KK l),I 0] (Jv (Jt.le_refl _) ?_)))))))))))
 have hf_:(Jw l)=(KK l,0):=by
  unfold Jw;(have hf_:=JbK hx1;(have hl_:=JcA hx2;subst hf_;subst hl_;rw [if_neg (by omega)];(rw [if_neg (by simp_all)];done)))
 · (try rw [hf_]);(simp only [JL];done)
 have h2d:=h2
 try simp only [BB] at h2d
 refine KB [] (Wr [(0,Sl a_l l.length c_l),(1,I (l.length:Int)),(2,Bo false),(3,Bo false),(4,undef),(5,undef),(6,undef),(7,undef),(8,undef),(9,undef),(10,undef),(11,undef),(12,undef),(13,undef),(14,undef),(15,undef),(16,undef),(17,undef),(18,Bo false)] (KA [] [(0,0),(1,0),(3,0),(4,1),(5,1),(6,1),(7,1),(8,1),(9,1),(10,1),(11,1),(12,1),(13,1),(14,1),(15,1),(16,1),(17,1),(18,0)] [2] [(0,Sl a_l l.length c_l),(28,Bo false)] (List.forall_mem_cons.2 ⟨?_,List.forall_mem_nil _⟩) ?_))
 refine Jr 2 12 (Bo false) [(11,I (l.length:Int))] (fun X=>?_)
 exact K6 12 (Bo (decide ((l.length:Int) > 0))) (Bo false) (by rw [h2]) Jp
 refine Ja (Qv (Jm (Ja (Je (Jb (Jd [0] [(29,Sl a_l l.length c_l)] (Ji 30 (Sr (KK l)) (Vn G a_l c_l l h_l (by exact (KJ.1 ‹_›).len)) (Jd [0,0] [(2,Sr (KK l)),(3,I 0)] (Jc (Ja (Jk (Jl [0,0] [Sr (KK l),I 0] (Jv (Jt.le_refl _) ?_)))))))))))))
 have hf_:(Jw l)=(KK l,0):=by
  unfold Jw;(rw [if_neg (by omega),if_neg (by intro hc_;omega)];done)
 · (try rw [hf_]);(simp only [JL];done)
theorem Jb1 (G:Jt) (name:List UInt8) (hw_name:(name).length≤140737488351232) :QF Tryz.prog 123 #[Sr name] G [] (fun u G' L'=>u=Sr (way name)):=by
 refine JJ Tryz.func123 11 [(0,Sr name)] rfl (fun w0 G0=>?_)
 refine Jg [0] [(0,Sr name)] (Je (Jb (Jd [0] [(6,Sr name)] (Ji 7 (.tuple #[Sr ((Ke name).1),I ((Ke name).2)]) (JbI G name hw_name) (Jd [0,0,0,0,0] [(3,Sr ((Ke name).1))] (Jc (Ja (Jg [0,0] [(2,Sr ((Ke name).1))] (Jk (Jl [0] [Sr ((Ke name).1)] (Jv (Jt.le_refl _) ?_)))))))))))
 have hf_:(way name)=(Ke name).1:=by
  rfl
 · (try rw [hf_]);(simp only [JL];done)
theorem Jh6 (G:Jt) (vs_x:List Value) (x:JV) (h_x:Qo.R G vs_x x) (vs_w:List Value) (w:(List UInt8)) (h_w:ES.R G vs_w w) (b_w:Nat) (hz_w:∀ j v,(vs_w:List Value)[j]? = some v→G b_w (0+j)=some v) :QF Tryz.prog 207 #[.agg vs_x.toArray,Pt b_w 0] G [] (fun u G' L'=>u=Bo (VK x w)):=by
 obtain ⟨rfl,w1,_⟩:=h_x
 obtain ⟨rfl,_⟩:=h_w
 refine JJ Tryz.func207 9 [(0,.agg #[Sr x.name,Sr x.value]),(1,Pt b_w 0)] rfl (fun w0 G0=>?_)
 refine Je (Jb (Ju 2 #[Sr x.name,Sr x.value] 94 (fun b1=>Jd [0] [(1,Pt b_w 0),(2,Pt b1 0)] (Jc (Ja (Je (KB [] (Wr [(0,Pt b1 0),(1,Sr x.name),(2,Sr (way x.name)),(3,Sr w),(4,Bo (!((B (way x.name)).toList == (B w).toList))),(5,Bo (!((B (way x.name)).toList == (B w).toList)))] (KA [] [(0,0),(1,2),(4,0),(5,0)] [2,3] [(3,Bo (!((B (way x.name)).toList == (B w).toList)))] (List.forall_mem_cons.2 ⟨?_,(List.forall_mem_cons.2 ⟨?_,List.forall_mem_nil _⟩)⟩) ?_)))))))))
 refine Jr 2 6 (Sr (way x.name)) [(5,Sr x.name)] (fun X=>?_)
 exact Ji 6 (Sr (way x.name)) (Jb1 G x.name w1) Jp
 refine Jr 3 7 (Sr w) [(1,Pt b_w 0)] (fun X=>?_)
 exact Ka (o':=0) 7 9 (cs:=[Sr w]) 0 (Sr w) hz_w Jp
 refine JcU (fr':=[(3,Bo (!(way x.name == w)))]) (L':=[[Sg b1 0 [Sr x.name,Sr x.value]]]) (by simp only [Za]) (by rfl) (Ja (Jk (Jl [0] [Bo (!(way x.name == w))] (Jv (Jt.le_refl _) ?_))))
 have hf_:(VK x w)=(!(way x.name == w)):=by
  rfl
 · (try rw [hf_]);(simp only [JL];done)
theorem Jh7 (G:Jt) (m:Int) :QF Tryz.prog 209 #[U m] G [] (fun u G' L'=>u=Bo (Jaw m)):=by
 refine JJ Tryz.func209 5 [(0,U m)] rfl (fun w0 G0=>?_)
 refine Jg [0] [(0,U m)] (Jg [0,0,0] [(2,Bo (decide (m ≥ 2305843009213693951)))] (Jk (Jl [0] [Bo (decide (m ≥ 2305843009213693951))] (Jv (Jt.le_refl _) ?_))))
 have hf_:(Jaw m)=(decide (m ≥ 2305843009213693951)):=by
  rfl
 · (try rw [hf_]);(simp only [JL];done)
theorem Jd2 (G:Jt) (vs_p:List Value) (p:Wy) (h_p:JdR.R G vs_p p) :QF Tryz.prog 197 #[.agg vs_p.toArray] G [] (fun u G' L'=>u=I (Qs p)):=by
 obtain ⟨a1,c1,a2,c2,rfl,w1,hs1,hs2⟩:=h_p
 refine JJ Tryz.func197 33 [(0,(ZF p a1 c1 a2 c2))] rfl (fun w0 G0=>?_)
 refine Je (Jb (Ju 1 #[Sr p.name,Sl a1 p.entries.length c1,Sl a2 p.sides.length c2] 68 (fun b1=>Jd [0] [(1,Pt b1 0)] (Jc (Ja (Je (Je (Jb (Jd [0,2] [(1,Pt b1 0),(6,Sr p.name)] (Ji 7 (Bo (Kt p.name)) (Zk G p.name) (Jd [0] [(1,Pt b1 0),(8,Bo (!(Kt p.name)))] (Jc (Ja (Jo (!(Kt p.name)) (fun h1=>?_) (fun h1=>?_)))))))))))))))
 try simp only [BB] at h1
 refine Jg [0] [(2,I 3)] (Jk (Jh (Jl [0] [I 3] (Jv (Jt.le_refl _) ?_))))
 have hf_:(Qs p)=3:=by
  unfold Qs;(rw [if_pos ‹_›];done)
 · (try rw [hf_]);(simp only [JL];done)
 try simp only [BB] at h1
 refine Jm (Ja (Je (Je (Jb (Jd [0,2] [(1,Pt b1 0),(10,Sl a1 p.entries.length c1)] (Ji 11 (I (Kg p.entries)) (Yr G a1 c1 p.entries hs1) (Jd [0] [(1,Pt b1 0),(3,I (Kg p.entries))] (Jc (Ja (Jg [0,0] [(1,Pt b1 0),(3,I (Kg p.entries)),(13,Bo (!decide (Kg p.entries=0)))] (Jo (!decide (Kg p.entries=0)) (fun h2=>?_) (fun h2=>?_))))))))))))
 try simp only [BB] at h2
 refine Jg [0,0] [(2,I (Kg p.entries))] (Jk (Jh (Jl [0] [I (Kg p.entries)] (Jv (Jt.le_refl _) ?_))))
 have hf_:(Qs p)=(Kg p.entries):=by
  unfold Qs;(rw [if_neg (by simp_all),if_pos ‹_›];done)
 · (try rw [hf_]);(simp only [JL];done)
 try simp only [BB] at h2
 refine Jm (Ja (Je (Jb (Jd [0,2] [(1,Pt b1 0),(16,Sr p.name)] (Ji 17 (Sr (way p.name)) (Jb1 G p.name w1) (Ju 4 #[Sr ([])] 9 (fun b2=>Kd [3] [(1,Pt b1 0),(4,Pt b2 0)] [[Sg b2 0 [Sr (way p.name)]],[Sg b1 0 (Ze p a1 c1 a2 c2)]] (Jc (Ja (Je (Je (Jb (Jd [0,4,0] [(1,Pt b1 0),(19,Sl a1 p.entries.length c1),(20,.func (.func 207) #[] #[Pt b2 0])] (QQ (b:=b2) (o:=0) (cs:=[Sr (way p.name)]) 0 (fun G1 hl1 hz1=>Ji 21 (Bo (p.entries.any (fun x0=>VK x0 (way p.name)))) (JjI G1 a1 c1 p.entries (hs1.mono hl1) 207 #[Pt b2 0] (fun x0=>VK x0 (way p.name)) (fun _ _=>by kernel_rfl) (fun vs0 x0 hx0=>by obtain ⟨rfl,w2,w3⟩:=hx0;exact Jh6 G1 [Sr x0.name,Sr x0.value] x0 (⟨rfl,w2,w3⟩) [Sr (way p.name)] (way p.name) (⟨rfl,(Nat.le_trans (Jmt p.name) (by decide))⟩) b2 hz1)) (Jd [0] [(1,Pt b1 0),(22,Bo (p.entries.any (fun x0=>VK x0 (way p.name))))] (KD (p.entries.any (fun x0=>VK x0 (way p.name))) (fun bb=>[(1,Pt b1 0),(22,Bo bb)]) [1,1,1,1,0] [0,4,0,0,0] (fun bb=>[(1,Pt b1 0),(27,Bo (bb || (!decide ((p.sides.length:Int)=16))))]) (Jd [0] [(1,Pt b1 0),(28,Bo ((p.entries.any (fun x0=>VK x0 (way p.name))) || (!decide ((p.sides.length:Int)=16))))] ?_))))))))))))))))))
 refine Wd (fun bb=>[(1,Pt b1 0),(28,Bo bb)]) ((p.entries.any (fun x0=>VK x0 (way p.name))) || (!decide ((p.sides.length:Int)=16))) (fun h3=>?_) (fun h3=>?_)
 try simp only [BB] at h3
 refine Jd [1,1,1,0] [(32,Bo true)] (Jc (Ja (JZ (Jg [0] [(2,I 3)] (Jk (Jh (Jl [0] [I 3] (Jv hl1 ?_))))))))
 have hf_:(Qs p)=3:=by
  unfold Qs;(rw [if_neg (by simp_all),if_neg (by omega)];(rw [if_pos (by simp_all)];done))
 · (try rw [hf_]);(simp only [JL];done)
 try simp only [BB] at h3
 refine Jd [0,4] [(28,Bo false),(30,Sl a2 p.sides.length c2)] (Ji 31 (Bo (p.sides.any (fun x0=>Jaw x0))) (Jms G1 a2 c2 p.sides (hs2.mono hl1) 209 #[] (fun x0=>Jaw x0) (fun _ _=>by kernel_rfl) (fun x0 hx0=>Jh7 G1 x0)) (Jd [0] [(32,Bo (p.sides.any (fun x0=>Jaw x0)))] (Jc (Ja (Jo (p.sides.any (fun x0=>Jaw x0)) (fun h4=>?_) (fun h4=>?_))))))
 try simp only [BB] at h4
 refine Jg [0] [(2,I 3)] (Jk (Jh (Jl [0] [I 3] (Jv hl1 ?_))))
 have hf_:(Qs p)=3:=by
  unfold Qs;(rw [if_neg (by simp_all),if_neg (by omega)];(rw [if_pos (by simp_all)];done))
 · (try rw [hf_]);(simp only [JL];done)
 try simp only [BB] at h4
 refine Jm (Ja (Jg [0] [(2,I 0)] (Jk (Jl [0] [I 0] (Jv hl1 ?_)))))
 have hf_:(Qs p)=0:=by
  unfold Qs;(rw [if_neg (by simp_all),if_neg (by omega)];(rw [if_neg (by simp_all)];done))
 · (try rw [hf_]);(simp only [JL];done)
set_option maxRecDepth 20000 in
theorem Jey (G:Jt) (vs_p:List Value) (p:Wy) (h_p:JdR.R G vs_p p) :QF Tryz.prog 184 #[.agg vs_p.toArray] G [] (fun u G' L'=>∃ (a1:Option Addr) (c2:Nat),u=.tuple #[Sl a1 (((KT p).1).length) c2,I ((KT p).2)]∧(RS ES G' a1 c2 ((KT p).1))∧L'=[]):=by
 obtain ⟨a1,c1,a2,c2,rfl,w1,hs1,hs2⟩:=h_p
 refine JJ Tryz.func184 74 [(0,(ZF p a1 c1 a2 c2))] rfl (fun w0 G0=>?_)
 refine Je (Jb (Ju 1 #[Sr p.name,Sl a1 p.entries.length c1,Sl a2 p.sides.length c2] 68 (fun b1=>Jd [0,0] [(1,Pt b1 0)] (Jc (Ja (Je (Je (Jb (Jd [2] [(1,Pt b1 0),(15,(ZF p a1 c1 a2 c2))] (Ji 16 (I (Qs p)) (Jd2 G (Ze p a1 c1 a2 c2) p (⟨a1,c1,a2,c2,rfl,w1,hs1,hs2⟩)) (Jd [0] [(1,Pt b1 0),(4,I (Qs p))] (Jc (Ja (Jg [0,0] [(1,Pt b1 0),(4,I (Qs p)),(18,Bo (!decide (Qs p=0)))] (Jo (!decide (Qs p=0)) (fun h1=>?_) (fun h1=>?_))))))))))))))))
 try simp only [BB] at h1
 refine Jg [0,0,0] [(2,Sl none 0 0),(3,I (Qs p))] (Jk (Jh ?_))
 have hf1:KT p=([],Qs p):=by
  unfold KT;(simp_all;done)
 refine Jl [0,0] [Sl none 0 0,I (Qs p)] (JY [] (.cons _ .slnil) (Jt.le_refl _) ?_)
 rw [hf1]
 try dsimp only
 exact ⟨none,0,rfl,(RS.nil' ES G),rfl⟩
 try simp only [BB] at h1
 refine Jm (Ja (Je (Jb (Ji 21 (.tuple #[Sr ((Jw ([])).1),I ((Jw ([])).2)]) (Jb0 G none 0 ([]) (RS.nil' Qo G)) (Jd [0,0,0,0,0] [(1,Pt b1 0),(5,Sr ((Jw ([])).1))] (Jc (Ja (Je (Jb (Jd [0,2] [(1,Pt b1 0),(5,Sr ((Jw ([])).1)),(26,Sl a1 p.entries.length c1)] (Ji 27 (.tuple #[Sr ((Jw p.entries).1),I ((Jw p.entries).2)]) (Jb0 G a1 c1 p.entries hs1) (Jd [0,0,0,0,0] [(1,Pt b1 0),(5,Sr ((Jw ([])).1)),(7,Sr ((Jw p.entries).1))] (Jc (Ja (Je (Jb (Jd [0] [(1,Pt b1 0),(5,Sr ((Jw ([])).1)),(7,Sr ((Jw p.entries).1)),(30,Sr ((Jw p.entries).1))] (KH 31 1 #[Sr ((Jw p.entries).1)] 9 (fun b2=>Jd [0] [(1,Pt b1 0),(5,Sr ((Jw ([])).1)),(7,Sr ((Jw p.entries).1)),(9,Sl (At b2 0) 1 1)] (Jc (Ja (Je (Jb (Jd [0,4] [(1,Pt b1 0),(5,Sr ((Jw ([])).1)),(7,Sr ((Jw p.entries).1)),(9,Sl (At b2 0) 1 1),(33,Sr p.name)] (Ji 34 (Sr (way p.name)) (Jb1 G p.name w1) ?_)))))))))))))))))))))))))
 refine Jd [0] [(1,Pt b1 0),(5,Sr ((Jw ([])).1)),(7,Sr ((Jw p.entries).1)),(9,Sl (At b2 0) 1 1),(10,Sr (way p.name))] (Jc (Ja (Je (Jg [0,4,0,0] [(5,Sr ((Jw ([])).1)),(7,Sr ((Jw p.entries).1)),(9,Sl (At b2 0) 1 1),(10,Sr (way p.name)),(36,Sl a2 p.sides.length c2),(37,I (p.sides.length:Int)),(38,I 0)] (Jz ?_)))))
 have hlm_hs2:p.sides.length≤9223372036854775807:=Nat.le_trans (hs2).le (hs2).max
 refine Qc (σ:=Nat×List UInt8×Option Addr×Nat×List Ks×List (List UInt8)×Jt) (fun q_=>(Jt.le G q_.2.2.2.2.2.2)∧(q_.1≤p.sides.length)∧(q_.2.1.length≤14401)∧(J9 ES q_.2.2.2.2.2.2 q_.2.2.1 q_.2.2.2.1 q_.2.2.2.2.2.1 q_.2.2.2.2.1)∧(q_.2.2.2.2.2.1=(V5 (way p.name) 0 (Jw p.entries).1 p.sides).take (q_.1+1))∧((V5 (way p.name) 0 (Jw p.entries).1 p.sides)[q_.1]? = some q_.2.1)) (fun q_=>[(5,Sr ((Jw ([])).1)),(7,Sr q_.2.1),(9,Sl q_.2.2.1 q_.2.2.2.2.2.1.length q_.2.2.2.1),(10,Sr (way p.name)),(36,Sl a2 p.sides.length c2),(37,I (p.sides.length:Int)),(38,I (q_.1:Int))]) (fun q_=>q_.2.2.2.2.2.2) (fun q_=>[q_.2.2.2.2.1,[Sg b1 0 (Ze p a1 c1 a2 c2)]]) (fun q_=>p.sides.length-q_.1) (0,(Jw p.entries).1,At b2 0,1,[Sg b2 0 [Sr ((Jw p.entries).1)]],[(Jw p.entries).1],G) ⟨(Jt.le_refl _),(by (try dsimp only);exact Nat.zero_le _),(Zn _),(J9.of_lit [[Sr ((Jw p.entries).1)]] [(Jw p.entries).1] ⟨⟨rfl,(Nat.le_trans (Zn _) (by decide))⟩,trivial⟩ (by simp)),(Jh5 _ _ _ _),(Jh4 _ _ _ _)⟩ (fun q_ hs=>?_)
 obtain ⟨i,s,ao,co,ro,xo,g⟩:=q_
 obtain ⟨hle,hi,hs,hro,hxo,hs_⟩:=hs
 dsimp only at hle hi hs hro hxo hs_
 refine KQ (fr':=[(5,Sr ((Jw ([])).1)),(7,Sr s),(9,Sl ao xo.length co),(10,Sr (way p.name)),(36,Sl a2 p.sides.length c2),(37,I (p.sides.length:Int)),(38,I (i:Int))]) (L':=[ro,[Sg b1 0 (Ze p a1 c1 a2 c2)]]) rfl rfl (Jg [0] [(5,Sr ((Jw ([])).1)),(7,Sr s),(9,Sl ao xo.length co),(10,Sr (way p.name)),(36,Sl a2 p.sides.length c2),(37,I (p.sides.length:Int)),(38,I (i:Int)),(39,Bo (decide ((i:Int)<(p.sides.length:Int))))] (Je (Jo (decide ((i:Int)<(p.sides.length:Int))) (fun h2=>?_) (fun h2=>?_))))
 try simp only [BB] at h2
 refine Jm (Ja (Je (Jz (Je (Jb (Jd [0] [(5,Sr ((Jw ([])).1)),(7,Sr s),(9,Sl ao xo.length co),(10,Sr (way p.name)),(36,Sl a2 p.sides.length c2),(37,I (p.sides.length:Int)),(38,I (i:Int)),(40,I (i:Int))] ?_))))))
 obtain ⟨b3,o1,rfl⟩:=RS.addr (hs2.mono hle) (k:=i) (by omega)
 obtain ⟨x1,hx1⟩:=Wh (l:=p.sides) (k:=i) (by omega)
 obtain ⟨_,⟨rfl,_⟩,hc1⟩:=RS.get (hs2.mono hle) hx1
 refine Kh (b:=b3) (off:=o1) (len:=p.sides.length) (cap:=c2) (ik:=.i64) 41 48 1 i (by omega) (Ka 42 48 (cs:=[U x1]) 0 (U x1) hc1 (Jd [0,0] [(5,Sr ((Jw ([])).1)),(7,Sr s),(9,Sl ao xo.length co),(10,Sr (way p.name)),(11,I (i:Int)),(12,U x1),(36,Sl (At b3 o1) p.sides.length c2),(37,I (p.sides.length:Int)),(38,I (i:Int))] (Jc (Ja (Je (Jb (Jd [0] [(5,Sr ((Jw ([])).1)),(9,Sl ao xo.length co),(10,Sr (way p.name)),(11,I (i:Int)),(12,U x1),(36,Sl (At b3 o1) p.sides.length c2),(37,I (p.sides.length:Int)),(38,I (i:Int)),(43,Sr s)] (Ji 44 (U (Jf s)) (Zw s (JbG (by omega)) g) (Jd [0,0,0] [(5,Sr ((Jw ([])).1)),(9,Sl ao xo.length co),(10,Sr (way p.name)),(11,I (i:Int)),(13,U (Jf s)),(14,U x1),(36,Sl (At b3 o1) p.sides.length c2),(37,I (p.sides.length:Int)),(38,I (i:Int))] (Jc (Ja (Je (Je (Jb (Jd [0,0,0] [(5,Sr ((Jw ([])).1)),(9,Sl ao xo.length co),(10,Sr (way p.name)),(13,U (Jf s)),(14,U x1),(36,Sl (At b3 o1) p.sides.length c2),(37,I (p.sides.length:Int)),(38,I (i:Int)),(46,Sr (way p.name)),(48,I (IntKind.i64.wrap (15-(i:Int))))] ?_)))))))))))))))
 have e1:IntKind.i64.wrap (15-(i:Int))=15-(i:Int):=IntWalk.i64_in _ (by omega)
 refine J3 (fr':=[(5,Sr ((Jw ([])).1)),(9,Sl ao xo.length co),(10,Sr (way p.name)),(13,U (Jf s)),(14,U x1),(36,Sl (At b3 o1) p.sides.length c2),(37,I (p.sides.length:Int)),(38,I (i:Int)),(46,Sr (way p.name)),(48,I (15-(i:Int)))]) (L':=[ro,[Sg b1 0 [Sr p.name,Sl a1 p.entries.length c1,Sl (At b3 o1) p.sides.length c2]]]) (by simp only [Ze,ZF,e1];first | done | rfl) (by rfl) ?_
 clear e1
 obtain ⟨kn1,hkn1⟩:∃ k_:Nat,15-(i:Int)=(k_:Int):=⟨(15-(i:Int)).toNat,by (have q_:=QM.1 ‹_›;have q1_:=YY q_.name;have q2_:=q_.sides;omega)⟩
 have e2:15-(i:Int)=(kn1:Int):=hkn1
 refine Jd [] [(5,Sr ((Jw ([])).1)),(9,Sl ao xo.length co),(10,Sr (way p.name)),(13,U (Jf s)),(14,U x1),(36,Sl (At b3 o1) p.sides.length c2),(37,I (p.sides.length:Int)),(38,I (i:Int)),(46,Sr (way p.name)),(48,I (15-(i:Int)))] (J3 (fr':=[(5,Sr ((Jw ([])).1)),(9,Sl ao xo.length co),(10,Sr (way p.name)),(13,U (Jf s)),(14,U x1),(36,Sl (At b3 o1) p.sides.length c2),(37,I (p.sides.length:Int)),(38,I (i:Int)),(46,Sr (way p.name)),(48,I (kn1:Int))]) (L':=[ro,[Sg b1 0 [Sr p.name,Sl a1 p.entries.length c1,Sl (At b3 o1) p.sides.length c2]]]) (by (simp only [Ze,ZF,e2];first | done | rfl)) (by rfl) ?_)
 obtain ⟨y1,hy1⟩:=Wh (l:=way p.name) (k:=kn1) (by (have q_:=QM.1 ‹_›;have q1_:=YY q_.name;have q2_:=q_.sides;omega))
 have hb_y1:=y1.toNat_lt
 refine Jac (ik:=.i64) 49 kn1 y1 hy1 (Jd [0] [(5,Sr ((Jw ([])).1)),(9,Sl ao xo.length co),(10,Sr (way p.name)),(13,U (Jf s)),(14,U x1),(36,Sl (At b3 o1) p.sides.length c2),(37,I (p.sides.length:Int)),(38,I (i:Int)),(50,Bo (decide ((y1.toNat:Int)=49)))] (Jc (Ja (Jo (decide ((y1.toNat:Int)=49)) (fun h3=>?_) (fun h3=>?_)))))
 try simp only [BB] at h3
 refine Jb (Jd [0,0,0,0] [(5,Sr ((Jw ([])).1)),(9,Sl ao xo.length co),(10,Sr (way p.name)),(13,U x1),(14,U (Jf s)),(36,Sl (At b3 o1) p.sides.length c2),(37,I (p.sides.length:Int)),(38,I (i:Int))] (Jc (Ja (Je (Jg [0,0] [(5,Sr ((Jw ([])).1)),(7,Sr ((Jw ([])).1)),(9,Sl ao xo.length co),(10,Sr (way p.name)),(13,U x1),(14,U (Jf s)),(36,Sl (At b3 o1) p.sides.length c2),(37,I (p.sides.length:Int)),(38,I (i:Int))] (Je (Jb (Jd [0,0,0,0] [(5,Sr ((Jw ([])).1)),(7,Sr ((Jw ([])).1)),(9,Sl ao xo.length co),(10,Sr (way p.name)),(13,U x1),(14,U (Jf s)),(36,Sl (At b3 o1) p.sides.length c2),(37,I (p.sides.length:Int)),(38,I (i:Int)),(56,U (if (Jf s) > x1 then (Jf s) else x1)),(57,Sr ((Jw ([])).1))] (Ji 58 (U (Jf ((Jw ([])).1))) (Zw ((Jw ([])).1) (JbG (Nat.le_trans (Zn _) (by decide))) g) (Jd [0,0] [(5,Sr ((Jw ([])).1)),(7,Sr ((Jw ([])).1)),(9,Sl ao xo.length co),(10,Sr (way p.name)),(13,U x1),(14,U (Jf s)),(36,Sl (At b3 o1) p.sides.length c2),(37,I (p.sides.length:Int)),(38,I (i:Int)),(60,Bo (!decide ((if (Jf s) > x1 then (Jf s) else x1)=Jf ((Jw ([])).1))))] (KD (!decide ((if (Jf s) > x1 then (Jf s) else x1)=Jf ((Jw ([])).1))) (fun bb=>[(5,Sr ((Jw ([])).1)),(7,Sr ((Jw ([])).1)),(9,Sl ao xo.length co),(10,Sr (way p.name)),(13,U x1),(14,U (Jf s)),(36,Sl (At b3 o1) p.sides.length c2),(37,I (p.sides.length:Int)),(38,I (i:Int)),(60,Bo bb)]) [1,1,1,0] [0,0,0,0] (fun bb=>[(5,Sr ((Jw ([])).1)),(7,Sr ((Jw ([])).1)),(9,Sl ao xo.length co),(10,Sr (way p.name)),(13,U x1),(14,U (Jf s)),(36,Sl (At b3 o1) p.sides.length c2),(37,I (p.sides.length:Int)),(38,I (i:Int)),(64,Bo (bb || (!decide (x1=Jf s))))]) (Jc (Ja (Jo ((!decide ((if (Jf s) > x1 then (Jf s) else x1)=Jf ((Jw ([])).1))) || (!decide (x1=Jf s))) (fun h4=>?_) (fun h4=>?_)))))))))))))))
 try simp only [BB] at h4
 refine Jb (Jd [0,0] [(5,Sr ((Jw ([])).1)),(7,Sr ((Jw ([])).1)),(9,Sl ao xo.length co),(10,Sr (way p.name)),(36,Sl (At b3 o1) p.sides.length c2),(37,I (p.sides.length:Int)),(38,I (i:Int)),(65,U x1),(66,U (Jf s))] (Ji 67 (Sr (Kx 2 x1 (Jf s))) (Jaq 2 x1 (Jf s) g) (Jd [0] [(5,Sr ((Jw ([])).1)),(7,Sr (Kx 2 x1 (Jf s))),(9,Sl ao xo.length co),(10,Sr (way p.name)),(36,Sl (At b3 o1) p.sides.length c2),(37,I (p.sides.length:Int)),(38,I (i:Int))] (Jc (Ja (Jb (Jd [0,0] [(5,Sr ((Jw ([])).1)),(7,Sr (Kx 2 x1 (Jf s))),(9,Sl ao xo.length co),(10,Sr (way p.name)),(36,Sl (At b3 o1) p.sides.length c2),(37,I (p.sides.length:Int)),(38,I (i:Int)),(68,Sl ao xo.length co),(69,Sr (Kx 2 x1 (Jf s)))] (KH 70 1 #[Sr (Kx 2 x1 (Jf s))] 9 (fun b4=>QJ (b:=b4) (cs:=[Sr (Kx 2 x1 (Jf s))]) 71 9 1 0 (E:=ES) (Kx 2 x1 (Jf s)) hro ⟨rfl,(by rw [Zh];decide)⟩ (by have q_:=QM.1 ‹_›;have q1_:=YY q_.name;have q2_:=q_.sides;have q3_:=congrArg List.length hxo;have q4_:=Zo (way p.name) p.sides 0 (Jw p.entries).1;rw [List.length_take] at q3_;(try simp only [ES,List.length_append,List.length_cons,List.length_nil] at *);omega) (by have q_:=QM.1 ‹_›;have q1_:=YY q_.name;have q2_:=q_.sides;have q3_:=congrArg List.length hxo;have q4_:=Zo (way p.name) p.sides 0 (Jw p.entries).1;rw [List.length_take] at q3_;(try simp only [ES,List.length_append,List.length_cons,List.length_nil] at *);omega) (fun a3 c3 r1 hr1=>Jd [0] [(5,Sr ((Jw ([])).1)),(7,Sr (Kx 2 x1 (Jf s))),(9,Sl a3 ((xo++[Kx 2 x1 (Jf s)]).length) c3),(10,Sr (way p.name)),(36,Sl (At b3 o1) p.sides.length c2),(37,I (p.sides.length:Int)),(38,I (i:Int))] (Jc (JM (Ja (Jb (Jd [0,0] [(5,Sr ((Jw ([])).1)),(7,Sr (Kx 2 x1 (Jf s))),(9,Sl a3 ((xo++[Kx 2 x1 (Jf s)]).length) c3),(10,Sr (way p.name)),(36,Sl (At b3 o1) p.sides.length c2),(37,I (p.sides.length:Int)),(38,I (IntKind.i64.wrap ((i:Int)+1)))] ?_)))))))))))))))
 have e3:IntKind.i64.wrap ((i:Int)+1)=(i:Int)+1:=IntWalk.i64_in _ (by omega)
 refine J3 (fr':=[(5,Sr ((Jw ([])).1)),(7,Sr (Kx 2 x1 (Jf s))),(9,Sl a3 ((xo++[Kx 2 x1 (Jf s)]).length) c3),(10,Sr (way p.name)),(36,Sl (At b3 o1) p.sides.length c2),(37,I (p.sides.length:Int)),(38,I ((i:Int)+1))]) (L':=[[Sg b4 0 [Sr (Kx 2 x1 (Jf s))]],r1,[Sg b1 0 [Sr p.name,Sl a1 p.entries.length c1,Sl (At b3 o1) p.sides.length c2]]]) (by simp only [Ze,ZF,e3];first | done | rfl) (by rfl) ?_
 clear e3
 exact Jc (Q4 [r1,[Sg b1 0 (Ze p a1 c1 (At b3 o1) c2)]] (.cons _ (.cons_cons _ (.cons_cons _ .slnil))) (Qg (i+1,Kx 2 x1 (Jf s),a3,c3,r1,xo++[Kx 2 x1 (Jf s)],g) ⟨(Jt.le_trans hle (Jt.le_refl _)),(by omega),(by have q0_:=Zh;(rw [q0_];decide)),hr1,(by (try dsimp only);have q0_:=YD hxo hs_ hx1;have q1_:YU (way p.name) i s x1=Kx 2 x1 (Jf s):=(by (rw [Jdz (by omega) hy1 ‹_›]);exact Jdy ‹_›);rw [q1_] at q0_;exact q0_.1),(by (try dsimp only);have q0_:=YD hxo hs_ hx1;have q1_:YU (way p.name) i s x1=Kx 2 x1 (Jf s):=(by (rw [Jdz (by omega) hy1 ‹_›]);exact Jdy ‹_›);rw [q1_] at q0_;exact q0_.2)⟩ (by (try dsimp only);omega)))
 try simp only [BB] at h4
 refine Jm (Ja (Jb (Jd [0,0] [(5,Sr ((Jw ([])).1)),(7,Sr ((Jw ([])).1)),(9,Sl ao xo.length co),(10,Sr (way p.name)),(36,Sl (At b3 o1) p.sides.length c2),(37,I (p.sides.length:Int)),(38,I (i:Int)),(68,Sl ao xo.length co),(69,Sr ((Jw ([])).1))] (KH 70 1 #[Sr ((Jw ([])).1)] 9 (fun b5=>QJ (b:=b5) (cs:=[Sr ((Jw ([])).1)]) 71 9 1 0 (E:=ES) ((Jw ([])).1) hro ⟨rfl,(Nat.le_trans (Zn _) (by decide))⟩ (by have q_:=QM.1 ‹_›;have q1_:=YY q_.name;have q2_:=q_.sides;have q3_:=congrArg List.length hxo;have q4_:=Zo (way p.name) p.sides 0 (Jw p.entries).1;rw [List.length_take] at q3_;(try simp only [ES,List.length_append,List.length_cons,List.length_nil] at *);omega) (by have q_:=QM.1 ‹_›;have q1_:=YY q_.name;have q2_:=q_.sides;have q3_:=congrArg List.length hxo;have q4_:=Zo (way p.name) p.sides 0 (Jw p.entries).1;rw [List.length_take] at q3_;(try simp only [ES,List.length_append,List.length_cons,List.length_nil] at *);omega) (fun a4 c4 r2 hr2=>Jd [0] [(5,Sr ((Jw ([])).1)),(7,Sr ((Jw ([])).1)),(9,Sl a4 ((xo++[(Jw ([])).1]).length) c4),(10,Sr (way p.name)),(36,Sl (At b3 o1) p.sides.length c2),(37,I (p.sides.length:Int)),(38,I (i:Int))] (Jc (JM (Ja (Jb (Jd [0,0] [(5,Sr ((Jw ([])).1)),(7,Sr ((Jw ([])).1)),(9,Sl a4 ((xo++[(Jw ([])).1]).length) c4),(10,Sr (way p.name)),(36,Sl (At b3 o1) p.sides.length c2),(37,I (p.sides.length:Int)),(38,I (IntKind.i64.wrap ((i:Int)+1)))] ?_)))))))))))
 have e4:IntKind.i64.wrap ((i:Int)+1)=(i:Int)+1:=IntWalk.i64_in _ (by omega)
 refine J3 (fr':=[(5,Sr ((Jw ([])).1)),(7,Sr ((Jw ([])).1)),(9,Sl a4 ((xo++[(Jw ([])).1]).length) c4),(10,Sr (way p.name)),(36,Sl (At b3 o1) p.sides.length c2),(37,I (p.sides.length:Int)),(38,I ((i:Int)+1))]) (L':=[[Sg b5 0 [Sr ((Jw ([])).1)]],r2,[Sg b1 0 [Sr p.name,Sl a1 p.entries.length c1,Sl (At b3 o1) p.sides.length c2]]]) (by simp only [Ze,ZF,e4];first | done | rfl) (by rfl) ?_
 clear e4
 exact Jc (Q4 [r2,[Sg b1 0 (Ze p a1 c1 (At b3 o1) c2)]] (.cons _ (.cons_cons _ (.cons_cons _ .slnil))) (Qg (i+1,(Jw ([])).1,a4,c4,r2,xo++[(Jw ([])).1],g) ⟨(Jt.le_trans hle (Jt.le_refl _)),(by omega),(by have q0_:=Zh;exact Zn _),hr2,(by (try dsimp only);have q0_:=YD hxo hs_ hx1;have q1_:YU (way p.name) i s x1=(Jw ([])).1:=(by (rw [Jdz (by omega) hy1 ‹_›]);exact Jdx ‹_›);rw [q1_] at q0_;exact q0_.1),(by (try dsimp only);have q0_:=YD hxo hs_ hx1;have q1_:YU (way p.name) i s x1=(Jw ([])).1:=(by (rw [Jdz (by omega) hy1 ‹_›]);exact Jdx ‹_›);rw [q1_] at q0_;exact q0_.2)⟩ (by (try dsimp only);omega)))
 try simp only [BB] at h3
 refine Jm (Ja (Je (Jg [0,0] [(5,Sr ((Jw ([])).1)),(7,Sr ((Jw ([])).1)),(9,Sl ao xo.length co),(10,Sr (way p.name)),(13,U (Jf s)),(14,U x1),(36,Sl (At b3 o1) p.sides.length c2),(37,I (p.sides.length:Int)),(38,I (i:Int))] (Je (Jb (Jd [0,0,0,0] [(5,Sr ((Jw ([])).1)),(7,Sr ((Jw ([])).1)),(9,Sl ao xo.length co),(10,Sr (way p.name)),(13,U (Jf s)),(14,U x1),(36,Sl (At b3 o1) p.sides.length c2),(37,I (p.sides.length:Int)),(38,I (i:Int)),(56,U (if x1 > (Jf s) then x1 else (Jf s))),(57,Sr ((Jw ([])).1))] (Ji 58 (U (Jf ((Jw ([])).1))) (Zw ((Jw ([])).1) (JbG (Nat.le_trans (Zn _) (by decide))) g) (Jd [0,0] [(5,Sr ((Jw ([])).1)),(7,Sr ((Jw ([])).1)),(9,Sl ao xo.length co),(10,Sr (way p.name)),(13,U (Jf s)),(14,U x1),(36,Sl (At b3 o1) p.sides.length c2),(37,I (p.sides.length:Int)),(38,I (i:Int)),(60,Bo (!decide ((if x1 > (Jf s) then x1 else (Jf s))=Jf ((Jw ([])).1))))] (KD (!decide ((if x1 > (Jf s) then x1 else (Jf s))=Jf ((Jw ([])).1))) (fun bb=>[(5,Sr ((Jw ([])).1)),(7,Sr ((Jw ([])).1)),(9,Sl ao xo.length co),(10,Sr (way p.name)),(13,U (Jf s)),(14,U x1),(36,Sl (At b3 o1) p.sides.length c2),(37,I (p.sides.length:Int)),(38,I (i:Int)),(60,Bo bb)]) [1,1,1,0] [0,0,0,0] (fun bb=>[(5,Sr ((Jw ([])).1)),(7,Sr ((Jw ([])).1)),(9,Sl ao xo.length co),(10,Sr (way p.name)),(13,U (Jf s)),(14,U x1),(36,Sl (At b3 o1) p.sides.length c2),(37,I (p.sides.length:Int)),(38,I (i:Int)),(64,Bo (bb || (!decide (Jf s=x1))))]) (Jc (Ja (Jo ((!decide ((if x1 > (Jf s) then x1 else (Jf s))=Jf ((Jw ([])).1))) || (!decide (Jf s=x1))) (fun h5=>?_) (fun h5=>?_)))))))))))))
 try simp only [BB] at h5
 refine Jb (Jd [0,0] [(5,Sr ((Jw ([])).1)),(7,Sr ((Jw ([])).1)),(9,Sl ao xo.length co),(10,Sr (way p.name)),(36,Sl (At b3 o1) p.sides.length c2),(37,I (p.sides.length:Int)),(38,I (i:Int)),(65,U (Jf s)),(66,U x1)] (Ji 67 (Sr (Kx 2 (Jf s) x1)) (Jaq 2 (Jf s) x1 g) (Jd [0] [(5,Sr ((Jw ([])).1)),(7,Sr (Kx 2 (Jf s) x1)),(9,Sl ao xo.length co),(10,Sr (way p.name)),(36,Sl (At b3 o1) p.sides.length c2),(37,I (p.sides.length:Int)),(38,I (i:Int))] (Jc (Ja (Jb (Jd [0,0] [(5,Sr ((Jw ([])).1)),(7,Sr (Kx 2 (Jf s) x1)),(9,Sl ao xo.length co),(10,Sr (way p.name)),(36,Sl (At b3 o1) p.sides.length c2),(37,I (p.sides.length:Int)),(38,I (i:Int)),(68,Sl ao xo.length co),(69,Sr (Kx 2 (Jf s) x1))] (KH 70 1 #[Sr (Kx 2 (Jf s) x1)] 9 (fun b6=>QJ (b:=b6) (cs:=[Sr (Kx 2 (Jf s) x1)]) 71 9 1 0 (E:=ES) (Kx 2 (Jf s) x1) hro ⟨rfl,(by rw [Zh];decide)⟩ (by have q_:=QM.1 ‹_›;have q1_:=YY q_.name;have q2_:=q_.sides;have q3_:=congrArg List.length hxo;have q4_:=Zo (way p.name) p.sides 0 (Jw p.entries).1;rw [List.length_take] at q3_;(try simp only [ES,List.length_append,List.length_cons,List.length_nil] at *);omega) (by have q_:=QM.1 ‹_›;have q1_:=YY q_.name;have q2_:=q_.sides;have q3_:=congrArg List.length hxo;have q4_:=Zo (way p.name) p.sides 0 (Jw p.entries).1;rw [List.length_take] at q3_;(try simp only [ES,List.length_append,List.length_cons,List.length_nil] at *);omega) (fun a5 c5 r3 hr3=>Jd [0] [(5,Sr ((Jw ([])).1)),(7,Sr (Kx 2 (Jf s) x1)),(9,Sl a5 ((xo++[Kx 2 (Jf s) x1]).length) c5),(10,Sr (way p.name)),(36,Sl (At b3 o1) p.sides.length c2),(37,I (p.sides.length:Int)),(38,I (i:Int))] (Jc (JM (Ja (Jb (Jd [0,0] [(5,Sr ((Jw ([])).1)),(7,Sr (Kx 2 (Jf s) x1)),(9,Sl a5 ((xo++[Kx 2 (Jf s) x1]).length) c5),(10,Sr (way p.name)),(36,Sl (At b3 o1) p.sides.length c2),(37,I (p.sides.length:Int)),(38,I (IntKind.i64.wrap ((i:Int)+1)))] ?_)))))))))))))))
 have e5:IntKind.i64.wrap ((i:Int)+1)=(i:Int)+1:=IntWalk.i64_in _ (by omega)
 refine J3 (fr':=[(5,Sr ((Jw ([])).1)),(7,Sr (Kx 2 (Jf s) x1)),(9,Sl a5 ((xo++[Kx 2 (Jf s) x1]).length) c5),(10,Sr (way p.name)),(36,Sl (At b3 o1) p.sides.length c2),(37,I (p.sides.length:Int)),(38,I ((i:Int)+1))]) (L':=[[Sg b6 0 [Sr (Kx 2 (Jf s) x1)]],r3,[Sg b1 0 [Sr p.name,Sl a1 p.entries.length c1,Sl (At b3 o1) p.sides.length c2]]]) (by simp only [Ze,ZF,e5];first | done | rfl) (by rfl) ?_
 clear e5
 exact Jc (Q4 [r3,[Sg b1 0 (Ze p a1 c1 (At b3 o1) c2)]] (.cons _ (.cons_cons _ (.cons_cons _ .slnil))) (Qg (i+1,Kx 2 (Jf s) x1,a5,c5,r3,xo++[Kx 2 (Jf s) x1],g) ⟨(Jt.le_trans hle (Jt.le_refl _)),(by omega),(by have q0_:=Zh;(rw [q0_];decide)),hr3,(by (try dsimp only);have q0_:=YD hxo hs_ hx1;have q1_:YU (way p.name) i s x1=Kx 2 (Jf s) x1:=(by (rw [JdA (by omega) hy1 ‹_›]);exact Jdy ‹_›);rw [q1_] at q0_;exact q0_.1),(by (try dsimp only);have q0_:=YD hxo hs_ hx1;have q1_:YU (way p.name) i s x1=Kx 2 (Jf s) x1:=(by (rw [JdA (by omega) hy1 ‹_›]);exact Jdy ‹_›);rw [q1_] at q0_;exact q0_.2)⟩ (by (try dsimp only);omega)))
 try simp only [BB] at h5
 refine Jm (Ja (Jb (Jd [0,0] [(5,Sr ((Jw ([])).1)),(7,Sr ((Jw ([])).1)),(9,Sl ao xo.length co),(10,Sr (way p.name)),(36,Sl (At b3 o1) p.sides.length c2),(37,I (p.sides.length:Int)),(38,I (i:Int)),(68,Sl ao xo.length co),(69,Sr ((Jw ([])).1))] (KH 70 1 #[Sr ((Jw ([])).1)] 9 (fun b7=>QJ (b:=b7) (cs:=[Sr ((Jw ([])).1)]) 71 9 1 0 (E:=ES) ((Jw ([])).1) hro ⟨rfl,(Nat.le_trans (Zn _) (by decide))⟩ (by have q_:=QM.1 ‹_›;have q1_:=YY q_.name;have q2_:=q_.sides;have q3_:=congrArg List.length hxo;have q4_:=Zo (way p.name) p.sides 0 (Jw p.entries).1;rw [List.length_take] at q3_;(try simp only [ES,List.length_append,List.length_cons,List.length_nil] at *);omega) (by have q_:=QM.1 ‹_›;have q1_:=YY q_.name;have q2_:=q_.sides;have q3_:=congrArg List.length hxo;have q4_:=Zo (way p.name) p.sides 0 (Jw p.entries).1;rw [List.length_take] at q3_;(try simp only [ES,List.length_append,List.length_cons,List.length_nil] at *);omega) (fun a6 c6 r4 hr4=>Jd [0] [(5,Sr ((Jw ([])).1)),(7,Sr ((Jw ([])).1)),(9,Sl a6 ((xo++[(Jw ([])).1]).length) c6),(10,Sr (way p.name)),(36,Sl (At b3 o1) p.sides.length c2),(37,I (p.sides.length:Int)),(38,I (i:Int))] (Jc (JM (Ja (Jb (Jd [0,0] [(5,Sr ((Jw ([])).1)),(7,Sr ((Jw ([])).1)),(9,Sl a6 ((xo++[(Jw ([])).1]).length) c6),(10,Sr (way p.name)),(36,Sl (At b3 o1) p.sides.length c2),(37,I (p.sides.length:Int)),(38,I (IntKind.i64.wrap ((i:Int)+1)))] ?_)))))))))))
 have e6:IntKind.i64.wrap ((i:Int)+1)=(i:Int)+1:=IntWalk.i64_in _ (by omega)
 refine J3 (fr':=[(5,Sr ((Jw ([])).1)),(7,Sr ((Jw ([])).1)),(9,Sl a6 ((xo++[(Jw ([])).1]).length) c6),(10,Sr (way p.name)),(36,Sl (At b3 o1) p.sides.length c2),(37,I (p.sides.length:Int)),(38,I ((i:Int)+1))]) (L':=[[Sg b7 0 [Sr ((Jw ([])).1)]],r4,[Sg b1 0 [Sr p.name,Sl a1 p.entries.length c1,Sl (At b3 o1) p.sides.length c2]]]) (by simp only [Ze,ZF,e6];first | done | rfl) (by rfl) ?_
 clear e6
 exact Jc (Q4 [r4,[Sg b1 0 (Ze p a1 c1 (At b3 o1) c2)]] (.cons _ (.cons_cons _ (.cons_cons _ .slnil))) (Qg (i+1,(Jw ([])).1,a6,c6,r4,xo++[(Jw ([])).1],g) ⟨(Jt.le_trans hle (Jt.le_refl _)),(by omega),(by have q0_:=Zh;exact Zn _),hr4,(by (try dsimp only);have q0_:=YD hxo hs_ hx1;have q1_:YU (way p.name) i s x1=(Jw ([])).1:=(by (rw [JdA (by omega) hy1 ‹_›]);exact Jdx ‹_›);rw [q1_] at q0_;exact q0_.1),(by (try dsimp only);have q0_:=YD hxo hs_ hx1;have q1_:YU (way p.name) i s x1=(Jw ([])).1:=(by (rw [JdA (by omega) hy1 ‹_›]);exact Jdx ‹_›);rw [q1_] at q0_;exact q0_.2)⟩ (by (try dsimp only);omega)))
 try simp only [BB] at h2
 refine K0 (J2 (Kf (JU (Ja (Jg [0,0,0] [(2,Sl ao xo.length co),(3,I 0)] (Jk (Wn (E:=ES) 0 hro (by have q_:=QM.1 ‹_›;have q1_:=YY q_.name;have q2_:=q_.sides;have q3_:=congrArg List.length hxo;have q4_:=Zo (way p.name) p.sides 0 (Jw p.entries).1;rw [List.length_take] at q3_;(try simp only [ES,List.length_append,List.length_cons,List.length_nil] at *);omega) (fun G1 hl1 hs3=>?_))))))))
 have hf2:KT p=(xo,0):=by
  unfold KT;(rw [if_neg (by omega),hxo,List.take_of_length_le (by rw [Zo];omega)])
 refine Jl [0,0] [Sl ao xo.length co,I 0] (JY [] (.cons _ (.cons _ .slnil)) (Jt.le_trans hle hl1) ?_)
 rw [hf2]
 try dsimp only
 exact ⟨ao,co,rfl,hs3,rfl⟩
end Go.Proofs.YtnnlpbjdignhaaaGreatDoor
