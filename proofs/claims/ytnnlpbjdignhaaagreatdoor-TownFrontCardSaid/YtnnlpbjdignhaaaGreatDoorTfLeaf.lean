import Derived.Test.YtnnlpbjdignhaaaGreatDoorTfTree
namespace Go.Proofs.YtnnlpbjdignhaaaGreatDoor
open Go.Tx
set_option linter.unusedVariables false
set_option linter.unusedSimpArgs false
def Jho (x:J1):List UInt8:=(Ym [x.name,x.value]).1
def KO (l:List J1):List UInt8:=if l.length=0 then [0] else [1]++(l.map Jho).flatten
theorem Jku (x:J1):(Jho x).length≤600:=JaN _
theorem Jgm (l:List J1):((l.map Jho).flatten).length≤600*l.length:=by
 induction l with
 | nil=>simp
 | cons x l ih=>simp only [List.map_cons,List.flatten_cons,List.length_append,List.length_cons];have:=Jku x;omega
theorem V6 {l:List J1} (h:l.length≤24):(KO l).length≤14401:=by
 unfold KO;split
 ·
  simp
 ·
  rw [List.length_append];have:=Jgm l;simp only [List.length_cons,List.length_nil];omega
theorem Jjg {l:List J1} {i:Nat} {x:J1} (h:l[i]? = some x):([1]++((l.take i).map Jho).flatten)++(Ym [x.name,x.value]).1=[1]++((l.take (i+1)).map Jho).flatten:=by rw [List.take_add_one,h];simp [Jho]
def entZ:J1:=⟨[],[]⟩
def Jhp (l:List J1):J1:=l[0]?.getD entZ
def Jkv (l:List J1):J1:=l[l.length-1]?.getD entZ
theorem Jdz {l:List J1} {x:J1} (h:l[0]? = some x):x=Jhp l:=by unfold Jhp;rw [h];rfl
theorem JeO {l:List J1} {x:J1} (h:l[l.length-1]? = some x):x=Jkv l:=by unfold Jkv;rw [h];rfl
def Jw (l:List J1):List UInt8×Int:=if Kd l ≠ 0 then ([],Kd l) else if 0<(l.length:Int)∧¬ way (Jhp l).name=way (Jkv l).name then ([],3) else (KO l,0)
theorem Zg (l:List J1):(Jw l).1.length≤14401:=by
 unfold Jw;split
 ·
  simp
 split
 ·
  simp
 ·
  rename_i h _;exact V6 (K7.1 (Decidable.not_not.1 h)).len
def Vs (x:J1) (w:List UInt8):Bool:=!(way x.name == w)
def V7 (m:Int):Bool:=decide (m ≥ 2305843009213693951)
def Qt (p:WF):Int:=if KD p.name=false then 3 else if Kd p.entries ≠ 0 then Kd p.entries else if ((p.entries.any fun x0=>Vs x0 (way p.name))=true∨¬ (p.sides.length:Int)=16)∨(p.sides.any fun x0=>V7 x0)=true then 3 else 0
def Jgn:List UInt8:=(Jw []).1
def Jgo (a b:Int):List UInt8:=if a=Jf Jgn∧b=Jf Jgn then Jgn else Kx 2 a b
def YW (w:List UInt8) (i:Nat) (s:List UInt8) (side:Int):List UInt8:=if w[15-i]? = some 49 then Jgo side (Jf s) else Jgo (Jf s) side
def Jbz (w:List UInt8):Nat→List UInt8→List Int→List (List UInt8)
 | _,s,[]=>[s]
 | i,s,q::qs=>s::Jbz w (i+1) (YW w i s q) qs
theorem ZK (w:List UInt8):∀ (qs:List Int) (i:Nat) (s:List UInt8),(Jbz w i s qs).length=qs.length+1
 | [],_,_=>rfl
 | q::qs,i,s=>by show (Jbz w (i+1) _ qs).length+1=_;rw [ZK w qs];rfl
theorem Jkw (w:List UInt8) (qs:List Int) (i:Nat) (s:List UInt8):(Jbz w i s qs)[0]? = some s:=by cases qs <;> rfl
theorem Jhq (w:List UInt8) (qs:List Int) (i:Nat) (s:List UInt8):[s]=(Jbz w i s qs).take 1:=by cases qs <;> rfl
theorem JeP (w:List UInt8):∀ (qs:List Int) (i k:Nat) (s a:List UInt8) (q:Int),(Jbz w i s qs)[k]? = some a→qs[k]? = some q→(Jbz w i s qs)[k+1]? = some (YW w (i+k) a q)
 | [],_,_,_,_,_,_,h=>by simp at h
 | q::qs,i,0,s,a,q',h1,h2=>by
  have h1:some s=some a:=h1
  have h2:some q=some q':=h2
  rw [← Option.some.inj h1,← Option.some.inj h2]
  exact Jkw w qs (i+1) _
 | q::qs,i,k+1,s,a,q',h1,h2=>by
  have:=JeP w qs (i+1) k (YW w i s q) a q' h1 h2
  rw [show i+(k+1)=i+1+k by omega];exact this
theorem Yu {w:List UInt8} {qs:List Int} {s0 s:List UInt8} {xo:List (List UInt8)} {i:Nat} {q:Int} (ho:xo=(Jbz w 0 s0 qs).take (i+1)) (hs:(Jbz w 0 s0 qs)[i]? = some s) (hq:qs[i]? = some q):xo++[YW w i s q]=(Jbz w 0 s0 qs).take (i+1+1)∧(Jbz w 0 s0 qs)[i+1]? = some (YW w i s q):=by
 have:=JeP w qs 0 i s0 s q hs hq
 rw [Nat.zero_add] at this
 refine ⟨?_,this⟩
 rw [ho]
 conv=>rhs;rw [List.take_add_one,this]
 rfl
def KS (p:WF):List (List UInt8)×Int:=if Qt p ≠ 0 then ([],Qt p) else (Jbz (way p.name) 0 (Jw p.entries).1 p.sides,0)
theorem Vt {name:List UInt8} (h:KD name=true):(way name).length=16:=by unfold way Kf;rw [if_neg (by rw [h];simp)];exact Y4 name
structure Jlx (p:WF):Prop where
 name:KD p.name=true
 ents:W9 p.entries
 ways:∀ x∈p.entries,way x.name=way p.name
 sides:p.sides.length=16
 marks:∀ m∈p.sides,m<2305843009213693951
theorem QX {p:WF}:Qt p=0 ↔ Jlx p:=by
 unfold Qt
 constructor
 ·
  intro h
  split at h
  ·
   cases h
  split at h
  ·
   contradiction
  split at h
  ·
   cases h
  ·
   rename_i h1 h2 h3
   refine ⟨by simpa using h1,K7.1 (Decidable.not_not.1 h2),fun x hx=>?_,?_,fun m hm=>?_⟩
   ·
    apply Classical.byContradiction;intro hc
    exact h3 (.inl (.inl (List.any_eq_true.2 ⟨x,hx,by unfold Vs;simpa using hc⟩)))
   ·
    apply Classical.byContradiction;intro hc
    exact h3 (.inl (.inr (by omega)))
   ·
    apply Classical.byContradiction;intro hc
    exact h3 (.inr (List.any_eq_true.2 ⟨m,hm,by unfold V7;simp;omega⟩))
 ·
  rintro ⟨h1,h2,h3,h4,h5⟩
  rw [if_neg (by rw [h1];simp),if_neg (by have:=K7.2 h2;omega),if_neg]
  rintro ((hc | hc) | hc)
  ·
   obtain ⟨x,hx,e⟩:=List.any_eq_true.1 hc
   unfold Vs at e;simp at e
   exact e (h3 x hx)
  ·
   omega
  ·
   obtain ⟨m,hm,e⟩:=List.any_eq_true.1 hc
   have:=h5 m hm
   unfold V7 at e;simp at e;omega
theorem Jc4 {a b:Int} (h:(if b > a then b else a)=Jf (Jw []).1∧a=b):Jgo a b=(Jw []).1:=by
 unfold Jgo Jgn;obtain ⟨h1,rfl⟩:=h;rw [if_pos];split at h1 <;> exact ⟨h1,h1⟩
theorem Jc5 {a b:Int} (h:¬ (if b > a then b else a)=Jf (Jw []).1∨¬ a=b):Jgo a b=Kx 2 a b:=by
 unfold Jgo Jgn;rw [if_neg];rintro ⟨rfl,h2⟩
 rcases h with h | h
 ·
  exact h (by split <;> omega)
 ·
  exact h h2.symm
theorem Jc6 {w s:List UInt8} {i k:Nat} {q:Int} {y:UInt8} (h:15-i=k) (hy:w[k]? = some y) (e:(y.toNat:Int)=49):YW w i s q=Jgo q (Jf s):=by
 have:y=49:=Jlo.1 e
 unfold YW;rw [h,hy,this,if_pos rfl]
theorem Jc7 {w s:List UInt8} {i k:Nat} {q:Int} {y:UInt8} (h:15-i=k) (hy:w[k]? = some y) (e:¬ (y.toNat:Int)=49):YW w i s q=Jgo (Jf s) q:=by
 unfold YW;rw [h,hy,if_neg]
 intro hc;apply e;rw [Option.some.inj hc];rfl
theorem Y7 (G:Jt) (a_l:Option Addr) (c_l:Nat) (l:List J1) (h_l:RS Qj G a_l c_l l) (h24:l.length≤24):QE Tryz.prog 172 #[Sl a_l l.length c_l] G [] (fun u G' L'=>u=Sr (KO l)):=by
 refine JL Tryz.func172 35 [(0,Sl a_l l.length c_l)] rfl (fun w0 G0=>?_)
 refine Jg [0] [(0,Sl a_l l.length c_l)] (Je ?_)
 refine Jg [0,0,0] [(0,Sl a_l l.length c_l),(10,Bo (decide ((l.length:Int)=0)))] ?_
 refine Jo (decide ((l.length:Int)=0)) (fun h1=>?_) (fun h1=>?_)
 try simp only [BB] at h1
 refine Je (Jb ?_)
 refine KC 11 1 #[Y 0] 5 (fun b1=>?_)
 refine VP (b:=b1) (off:=0) (len:=1) (cap:=1) (cs:=List.map (Value.int .u8) [0]) 12 0 [0] rfl (Vb (ns:=[0]) rfl) ?_
 refine Jc [0] [(2,Sr (([0]:List Int).map fun n=>UInt8.ofNat n.toNat))] (Jd (Ja (Jk (Jh ?_))))
 refine Jl [0] [Sr (([0]:List Int).map fun n=>UInt8.ofNat n.toNat)] (Jv (Jt.le_refl _) ?_)
 have hf_:(KO l)=([0]:List Int).map fun n=>UInt8.ofNat n.toNat:=by
  unfold KO;(rw [if_pos (by omega)];rfl)
 · (try rw [hf_]);(simp only [JM];done)
 try simp only [BB] at h1
 refine Jm (Ja (Je (Jb ?_)))
 refine KC 13 1 #[Y 1] 5 (fun b2=>?_)
 refine VP (b:=b2) (off:=0) (len:=1) (cap:=1) (cs:=List.map (Value.int .u8) [1]) 14 0 [1] rfl (Vb (ns:=[1]) rfl) ?_
 refine Jc [0] [(0,Sl a_l l.length c_l),(3,Sr (([1]:List Int).map fun n=>UInt8.ofNat n.toNat))] (Jd (Ja (Je ?_)))
 refine Jg [0,0,0] [(3,Sr (([1]:List Int).map fun n=>UInt8.ofNat n.toNat)),(15,Sl a_l l.length c_l),(16,I (l.length:Int)),(17,I 0)] (Jy ?_)
 have hlm_h_l:l.length≤9223372036854775807:=Nat.le_trans (h_l).le (h_l).max
 refine Qb (σ:=Nat×List UInt8×Jt) (fun q_=>(Jt.le G q_.2.2)∧(q_.1≤l.length)∧(q_.2.1=[1]++((l.take q_.1).map Jho).flatten)) (fun q_=>[(3,Sr q_.2.1),(15,Sl a_l l.length c_l),(16,I (l.length:Int)),(17,I (q_.1:Int))]) (fun q_=>q_.2.2) (fun q_=>[[Sg b2 0 [Y 1]]]) (fun q_=>l.length-q_.1) (0,([1]:List Int).map fun n=>UInt8.ofNat n.toNat,G) ⟨(Jt.le_refl _),(by (try dsimp only);exact Nat.zero_le _),(by (try dsimp only);simp)⟩ (fun q_ hs=>?_)
 obtain ⟨i,o,g⟩:=q_
 obtain ⟨hle,hi,ho⟩:=hs
 dsimp only at hle hi ho
 refine KJ (fr':=[(3,Sr o),(15,Sl a_l l.length c_l),(16,I (l.length:Int)),(17,I (i:Int))]) (L':=[[Sg b2 0 [Y 1]]]) rfl rfl ?_
 refine Jg [0] [(3,Sr o),(15,Sl a_l l.length c_l),(16,I (l.length:Int)),(17,I (i:Int)),(18,Bo (decide ((i:Int)<(l.length:Int))))] (Je ?_)
 refine Jo (decide ((i:Int)<(l.length:Int))) (fun h2=>?_) (fun h2=>?_)
 try simp only [BB] at h2
 refine Jm (Ja (Je (Jy (Je (Jb ?_)))))
 obtain ⟨b3,o1,rfl⟩:=RS.addr (h_l.mono hle) (k:=i) (by omega)
 obtain ⟨x1,hx1⟩:=Q8 (l:=l) (k:=i) (by omega)
 obtain ⟨_,⟨rfl,w1,w2⟩,hc1⟩:=RS.get (h_l.mono hle) hx1
 refine Kh (b:=b3) (off:=o1) (len:=l.length) (cap:=c_l) (ik:=.i64) 19 94 2 i (by omega) ?_
 refine J9 20 94 (cs:=[Sr x1.name,Sr x1.value]) 0 (.agg #[Sr x1.name,Sr x1.value]) hc1 ?_
 refine Ju 5 #[Sr ([]),Sr ([])] 94 (fun b4=>?_)
 refine Kb [3] [(3,Sr o),(5,Pt b4 0),(15,Sl (At b3 o1) l.length c_l),(16,I (l.length:Int)),(17,I (i:Int))] [[Sg b4 0 [Sr x1.name,Sr x1.value]],[Sg b2 0 [Y 1]]] (Jd (Ja (Je (Jb ?_))))
 refine Jc [0,2,0,2] [(3,Sr o),(15,Sl (At b3 o1) l.length c_l),(16,I (l.length:Int)),(17,I (i:Int)),(23,Sr x1.name),(25,Sr x1.value)] ?_
 refine KC 26 2 #[Sr x1.name,Sr x1.value] 9 (fun b5=>?_)
 refine QJ (b:=b5) (o:=0) (cs:=[Sr x1.name,Sr x1.value]) 0 (fun G1 hl1 hz1=>?_)
 have hs1:RS ES G1 (At b5 0) 2 [x1.name,x1.value]:=RS.lit [[Sr x1.name],[Sr x1.value]] [x1.name,x1.value] ⟨⟨rfl,w1⟩,⟨⟨rfl,w2⟩,trivial⟩⟩ hz1 (Nat.le_of_ble_eq_true rfl) (Nat.le_of_ble_eq_true rfl)
 refine Ji 27 (.tuple #[Sr ((Ym ([x1.name,x1.value])).1),I ((Ym ([x1.name,x1.value])).2)]) (Jf4 G1 (At b5 0) 2 ([x1.name,x1.value]) hs1) ?_
 refine Jc [0,0,0,0,0] [(3,Sr o),(6,Sr ((Ym ([x1.name,x1.value])).1)),(15,Sl (At b3 o1) l.length c_l),(16,I (l.length:Int)),(17,I (i:Int))] (Jd (Ja (Jb ?_)))
 refine Jc [0,0] [(3,Sr o),(15,Sl (At b3 o1) l.length c_l),(16,I (l.length:Int)),(17,I (i:Int)),(30,Sr o),(31,Sr ((Ym ([x1.name,x1.value])).1))] ?_
 refine Zr 32 o ((Ym ([x1.name,x1.value])).1) (by have q_:=congrArg List.length ho;have q1_:=Jgm (l.take i);have q2_:=JaN [x1.name,x1.value];rw [List.length_take] at q1_;simp only [List.length_append,List.length_cons,List.length_nil] at q_;omega) ?_
 refine Jc [0] [(3,Sr (o++((Ym ([x1.name,x1.value])).1))),(15,Sl (At b3 o1) l.length c_l),(16,I (l.length:Int)),(17,I (i:Int))] (Jd (JK (Ja (Jb ?_))))
 refine Jc [0,0] [(3,Sr (o++((Ym ([x1.name,x1.value])).1))),(15,Sl (At b3 o1) l.length c_l),(16,I (l.length:Int)),(17,I (IntKind.i64.wrap ((i:Int)+1)))] ?_
 have e1:IntKind.i64.wrap ((i:Int)+1)=(i:Int)+1:=IntWalk.i64_in _ (by omega)
 refine J2 (fr':=[(3,Sr (o++((Ym ([x1.name,x1.value])).1))),(15,Sl (At b3 o1) l.length c_l),(16,I (l.length:Int)),(17,I ((i:Int)+1))]) (L':=[[],[Sg b4 0 [Sr x1.name,Sr x1.value]],[Sg b2 0 [Y 1]]]) (by simp only [e1]) (by rfl) ?_
 clear e1
 refine Jd ?_
 refine QY [[Sg b2 0 [Y 1]]] (.cons _ (.cons _ (.cons_cons _ .slnil))) ?_
 exact Qd (i+1,o++((Ym ([x1.name,x1.value])).1),G1) ⟨(Jt.le_trans hle hl1),(by omega),(by (try dsimp only);rw [ho];exact Jjg hx1)⟩ (by (try dsimp only);omega)
 try simp only [BB] at h2
 refine KU (J3 (Ke (JW (Ja ?_))))
 refine Jg [0,0] [(2,Sr o)] (Jk ?_)
 refine Jl [0] [Sr o] (Jv hle ?_)
 have hf_:(KO l)=o:=by
  unfold KO;(rw [if_neg (by omega),ho,List.take_of_length_le (by omega)])
 · (try rw [hf_]);(simp only [JM];done)
theorem JbA (G:Jt) (a_l:Option Addr) (c_l:Nat) (l:List J1) (h_l:RS Qj G a_l c_l l) :QE Tryz.prog 198 #[Sl a_l l.length c_l] G [] (fun u G' L'=>u=.tuple #[Sr ((Jw l).1),I ((Jw l).2)]):=by
 refine JL Tryz.func198 31 [(0,Sl a_l l.length c_l)] rfl (fun w0 G0=>?_)
 refine Jg [0,0] [(0,Sl a_l l.length c_l)] (Je (Je (Jb ?_)))
 refine Jc [0] [(0,Sl a_l l.length c_l),(5,Sl a_l l.length c_l)] ?_
 refine Ji 6 (I (Kd l)) (Yh G a_l c_l l h_l) ?_
 refine Jc [0] [(0,Sl a_l l.length c_l),(4,I (Kd l))] (Jd (Ja ?_))
 refine Jg [0,0] [(0,Sl a_l l.length c_l),(4,I (Kd l)),(8,Bo (!decide (Kd l=0)))] ?_
 refine Jo (!decide (Kd l=0)) (fun h1=>?_) (fun h1=>?_)
 try simp only [BB] at h1
 refine Jg [0,0,0] [(2,Sr ([])),(3,I (Kd l))] (Jk (Jh ?_))
 refine Jl [0,0] [Sr ([]),I (Kd l)] (Jv (Jt.le_refl _) ?_)
 have hf_:(Jw l)=([],(Kd l)):=by
  unfold Jw;(rw [if_pos ‹_›];done)
 · (try rw [hf_]);(simp only [JM];done)
 try simp only [BB] at h1
 refine Jm (Ja (Je (Je ?_)))
 rcases Bool.eq_false_or_eq_true (decide ((l.length:Int) > 0)) with h2 | h2
 have h2d:=h2
 try simp only [BB] at h2d
 obtain ⟨b1,o1,rfl⟩:=RS.addr h_l (k:=0) (by omega)
 obtain ⟨x1,hx1⟩:=Q8 (l:=l) (k:=0) (by omega)
 obtain ⟨_,⟨rfl,w1,_⟩,hc1⟩:=RS.get h_l hx1
 have e1:IntKind.i64.wrap ((l.length:Int)-1)=((l.length-1:Nat):Int):=(IntWalk.i64_in _ (by (have q_:=(K7.1 ‹_›).len;omega))).trans (show (l.length:Int)-1=((l.length-1:Nat):Int) by omega)
 obtain ⟨x2,hx2⟩:=Q8 (l:=l) (k:=l.length-1) (by omega)
 obtain ⟨_,⟨rfl,w3,_⟩,hc2⟩:=RS.get h_l hx2
 refine Kw [] ?_
 refine Wa [(0,Sl (At b1 o1) l.length c_l),(1,I (l.length:Int)),(2,Bo true),(3,Bo true),(4,Sl (At b1 o1) l.length c_l),(5,Pt b1 (o1+0*2)),(6,Pt b1 (o1+0*2)),(7,Sr x1.name),(8,Sr (way x1.name)),(9,Sl (At b1 o1) l.length c_l),(10,Sl (At b1 o1) l.length c_l),(11,I (l.length:Int)),(12,I ((l.length-1:Nat):Int)),(13,Pt b1 (o1+(l.length-1)*2)),(14,Pt b1 (o1+(l.length-1)*2)),(15,Sr x2.name),(16,Sr (way x2.name)),(17,Bo (!((B (way x1.name)).toList == (B (way x2.name)).toList))),(18,Bo (!((B (way x1.name)).toList == (B (way x2.name)).toList)))] ?_
 refine Kv [] [(0,0),(1,0),(3,0),(4,0),(6,0),(9,0),(10,0),(11,0),(14,0),(17,0),(18,0)] [2,5,7,8,12,13,15,16] [(0,Sl (At b1 o1) l.length c_l),(28,Bo (!((B (way x1.name)).toList == (B (way x2.name)).toList)))] (List.forall_mem_cons.2 ⟨?_,(List.forall_mem_cons.2 ⟨?_,(List.forall_mem_cons.2 ⟨?_,(List.forall_mem_cons.2 ⟨?_,(List.forall_mem_cons.2 ⟨?_,(List.forall_mem_cons.2 ⟨?_,(List.forall_mem_cons.2 ⟨?_,(List.forall_mem_cons.2 ⟨?_,List.forall_mem_nil _⟩)⟩)⟩)⟩)⟩)⟩)⟩)⟩) ?_
 refine Jq 2 12 (Bo true) [(11,I (l.length:Int))] (fun X=>?_)
 exact KZ 12 (Bo (decide ((l.length:Int) > 0))) (Bo true) (by rw [h2]) Jn
 refine Jq 5 15 (Pt b1 (o1+0*2)) [(13,Bo true),(14,Sl (At b1 o1) l.length c_l)] (fun X=>?_)
 exact Kh (b:=b1) (off:=o1) (len:=l.length) (cap:=c_l) (ik:=.i64) 15 94 2 0 (by omega) Jn
 refine Jq 7 17 (Sr x1.name) [(13,Bo true),(16,Pt b1 (o1+0*2))] (fun X=>?_)
 exact J9 17 9 (cs:=[Sr x1.name,Sr x1.value]) 0 (Sr x1.name) hc1 Jn
 refine Jq 8 18 (Sr (way x1.name)) [(13,Bo true),(17,Sr x1.name)] (fun X=>?_)
 exact Ji 18 (Sr (way x1.name)) (Jbx G x1.name w1) Jn
 refine Jq 12 22 (I ((l.length-1:Nat):Int)) [(13,Bo true),(21,I (l.length:Int))] (fun X=>?_)
 exact KZ 22 (I (IntKind.i64.wrap ((l.length:Int)-1))) (I ((l.length-1:Nat):Int)) (by simp only [e1]) Jn
 refine Jq 13 23 (Pt b1 (o1+(l.length-1)*2)) [(13,Bo true),(19,Sl (At b1 o1) l.length c_l),(22,I ((l.length-1:Nat):Int))] (fun X=>?_)
 exact Kh (b:=b1) (off:=o1) (len:=l.length) (cap:=c_l) (ik:=.i64) 23 94 2 (l.length-1) (by omega) Jn
 refine Jq 15 25 (Sr x2.name) [(13,Bo true),(24,Pt b1 (o1+(l.length-1)*2))] (fun X=>?_)
 exact J9 25 9 (cs:=[Sr x2.name,Sr x2.value]) 0 (Sr x2.name) hc2 Jn
 refine Jq 16 26 (Sr (way x2.name)) [(13,Bo true),(25,Sr x2.name)] (fun X=>?_)
 exact Ji 26 (Sr (way x2.name)) (Jbx G x2.name w3) Jn
 refine Jct (fr':=[(0,Sl (At b1 o1) l.length c_l),(28,Bo (!(way x1.name == way x2.name)))]) (L':=[]) (by simp only [WW]) (by rfl) ?_
 refine Ja ?_
 refine Jo (!(way x1.name == way x2.name)) (fun h3=>?_) (fun h3=>?_)
 try simp only [BB] at h3
 refine Jg [0,0] [(2,Sr ([])),(3,I 3)] (Jk (Jh ?_))
 refine Jl [0,0] [Sr ([]),I 3] (Jv (Jt.le_refl _) ?_)
 have hf_:(Jw l)=([],3):=by
  unfold Jw;(have hf_:=Jdz hx1;(have hl_:=JeO hx2;subst hf_;subst hl_;rw [if_neg (by omega)];(rw [if_pos (by simp_all)];done)))
 · (try rw [hf_]);(simp only [JM];done)
 try simp only [BB] at h3
 refine Jm (Ja (Je (Jb ?_)))
 refine Jc [0] [(29,Sl (At b1 o1) l.length c_l)] ?_
 refine Ji 30 (Sr (KO l)) (Y7 G (At b1 o1) c_l l h_l (by exact (K7.1 ‹_›).len)) ?_
 refine Jc [0,0] [(2,Sr (KO l)),(3,I 0)] (Jd (Ja (Jk ?_)))
 refine Jl [0,0] [Sr (KO l),I 0] (Jv (Jt.le_refl _) ?_)
 have hf_:(Jw l)=(KO l,0):=by
  unfold Jw;(have hf_:=Jdz hx1;(have hl_:=JeO hx2;subst hf_;subst hl_;rw [if_neg (by omega)];(rw [if_neg (by simp_all)];done)))
 · (try rw [hf_]);(simp only [JM];done)
 have h2d:=h2
 try simp only [BB] at h2d
 refine Kw [] ?_
 refine Wa [(0,Sl a_l l.length c_l),(1,I (l.length:Int)),(2,Bo false),(3,Bo false),(4,undef),(5,undef),(6,undef),(7,undef),(8,undef),(9,undef),(10,undef),(11,undef),(12,undef),(13,undef),(14,undef),(15,undef),(16,undef),(17,undef),(18,Bo false)] ?_
 refine Kv [] [(0,0),(1,0),(3,0),(4,1),(5,1),(6,1),(7,1),(8,1),(9,1),(10,1),(11,1),(12,1),(13,1),(14,1),(15,1),(16,1),(17,1),(18,0)] [2] [(0,Sl a_l l.length c_l),(28,Bo false)] (List.forall_mem_cons.2 ⟨?_,List.forall_mem_nil _⟩) ?_
 refine Jq 2 12 (Bo false) [(11,I (l.length:Int))] (fun X=>?_)
 exact KZ 12 (Bo (decide ((l.length:Int) > 0))) (Bo false) (by rw [h2]) Jn
 refine Ja ?_
 refine Qm ?_
 refine Jm (Ja (Je (Jb ?_)))
 refine Jc [0] [(29,Sl a_l l.length c_l)] ?_
 refine Ji 30 (Sr (KO l)) (Y7 G a_l c_l l h_l (by exact (K7.1 ‹_›).len)) ?_
 refine Jc [0,0] [(2,Sr (KO l)),(3,I 0)] (Jd (Ja (Jk ?_)))
 refine Jl [0,0] [Sr (KO l),I 0] (Jv (Jt.le_refl _) ?_)
 have hf_:(Jw l)=(KO l,0):=by
  unfold Jw;(rw [if_neg (by omega),if_neg (by intro hc_;omega)];done)
 · (try rw [hf_]);(simp only [JM];done)
theorem JbB (G:Jt) (name:List UInt8) (hw_name:(name).length≤140737488351232) :QE Tryz.prog 123 #[Sr name] G [] (fun u G' L'=>u=Sr (way name)):=by
 refine JL Tryz.func123 11 [(0,Sr name)] rfl (fun w0 G0=>?_)
 refine Jg [0] [(0,Sr name)] (Je (Jb ?_))
 refine Jc [0] [(6,Sr name)] ?_
 refine Ji 7 (.tuple #[Sr ((Kf name).1),I ((Kf name).2)]) (Jbh G name hw_name) ?_
 refine Jc [0,0,0,0,0] [(3,Sr ((Kf name).1))] (Jd (Ja ?_))
 refine Jg [0,0] [(2,Sr ((Kf name).1))] (Jk ?_)
 refine Jl [0] [Sr ((Kf name).1)] (Jv (Jt.le_refl _) ?_)
 have hf_:(way name)=(Kf name).1:=by
  rfl
 · (try rw [hf_]);(simp only [JM];done)
theorem Jhr (G:Jt) (vs_x:List Value) (x:J1) (h_x:Qj.R G vs_x x) (vs_w:List Value) (w:(List UInt8)) (h_w:ES.R G vs_w w) (b_w:Nat) (hz_w:∀ j v,(vs_w:List Value)[j]? = some v→G b_w (0+j)=some v) :QE Tryz.prog 207 #[.agg vs_x.toArray,Pt b_w 0] G [] (fun u G' L'=>u=Bo (Vs x w)):=by
 obtain ⟨rfl,w1,_⟩:=h_x
 obtain ⟨rfl,_⟩:=h_w
 refine JL Tryz.func207 9 [(0,.agg #[Sr x.name,Sr x.value]),(1,Pt b_w 0)] rfl (fun w0 G0=>?_)
 refine Je (Jb ?_)
 refine Ju 2 #[Sr x.name,Sr x.value] 94 (fun b1=>?_)
 refine Jc [0] [(1,Pt b_w 0),(2,Pt b1 0)] (Jd (Ja (Je ?_)))
 refine Kw [] ?_
 refine Wa [(0,Pt b1 0),(1,Sr x.name),(2,Sr (way x.name)),(3,Sr w),(4,Bo (!((B (way x.name)).toList == (B w).toList))),(5,Bo (!((B (way x.name)).toList == (B w).toList)))] ?_
 refine Kv [] [(0,0),(1,2),(4,0),(5,0)] [2,3] [(3,Bo (!((B (way x.name)).toList == (B w).toList)))] (List.forall_mem_cons.2 ⟨?_,(List.forall_mem_cons.2 ⟨?_,List.forall_mem_nil _⟩)⟩) ?_
 refine Jq 2 6 (Sr (way x.name)) [(5,Sr x.name)] (fun X=>?_)
 exact Ji 6 (Sr (way x.name)) (JbB G x.name w1) Jn
 refine Jq 3 7 (Sr w) [(1,Pt b_w 0)] (fun X=>?_)
 exact J9 (o':=0) 7 9 (cs:=[Sr w]) 0 (Sr w) hz_w Jn
 refine Jct (fr':=[(3,Bo (!(way x.name == w)))]) (L':=[[Sg b1 0 [Sr x.name,Sr x.value]]]) (by simp only [WW]) (by rfl) ?_
 refine Ja (Jk ?_)
 refine Jl [0] [Bo (!(way x.name == w))] (Jv (Jt.le_refl _) ?_)
 have hf_:(Vs x w)=(!(way x.name == w)):=by
  rfl
 · (try rw [hf_]);(simp only [JM];done)
theorem Jhs (G:Jt) (m:Int) :QE Tryz.prog 209 #[U m] G [] (fun u G' L'=>u=Bo (V7 m)):=by
 refine JL Tryz.func209 5 [(0,U m)] rfl (fun w0 G0=>?_)
 refine Jg [0] [(0,U m)] ?_
 refine Jg [0,0,0] [(2,Bo (decide (m ≥ 2305843009213693951)))] (Jk ?_)
 refine Jl [0] [Bo (decide (m ≥ 2305843009213693951))] (Jv (Jt.le_refl _) ?_)
 have hf_:(V7 m)=(decide (m ≥ 2305843009213693951)):=by
  rfl
 · (try rw [hf_]);(simp only [JM];done)
theorem JdA (G:Jt) (vs_p:List Value) (p:WF) (h_p:Jdp.R G vs_p p) :QE Tryz.prog 197 #[.agg vs_p.toArray] G [] (fun u G' L'=>u=I (Qt p)):=by
 obtain ⟨a1,c1,a2,c2,rfl,w1,hs1,hs2⟩:=h_p
 refine JL Tryz.func197 33 [(0,(Zv p a1 c1 a2 c2))] rfl (fun w0 G0=>?_)
 refine Je (Jb ?_)
 refine Ju 1 #[Sr p.name,Sl a1 p.entries.length c1,Sl a2 p.sides.length c2] 68 (fun b1=>?_)
 refine Jc [0] [(1,Pt b1 0)] (Jd (Ja (Je (Je (Jb ?_)))))
 refine Jc [0,2] [(1,Pt b1 0),(6,Sr p.name)] ?_
 refine Ji 7 (Bo (KD p.name)) (Zd G p.name) ?_
 refine Jc [0] [(1,Pt b1 0),(8,Bo (!(KD p.name)))] (Jd (Ja ?_))
 refine Jo (!(KD p.name)) (fun h1=>?_) (fun h1=>?_)
 try simp only [BB] at h1
 refine Jg [0] [(2,I 3)] (Jk (Jh ?_))
 refine Jl [0] [I 3] (Jv (Jt.le_refl _) ?_)
 have hf_:(Qt p)=3:=by
  unfold Qt;(rw [if_pos ‹_›];done)
 · (try rw [hf_]);(simp only [JM];done)
 try simp only [BB] at h1
 refine Jm (Ja (Je (Je (Jb ?_))))
 refine Jc [0,2] [(1,Pt b1 0),(10,Sl a1 p.entries.length c1)] ?_
 refine Ji 11 (I (Kd p.entries)) (Yh G a1 c1 p.entries hs1) ?_
 refine Jc [0] [(1,Pt b1 0),(3,I (Kd p.entries))] (Jd (Ja ?_))
 refine Jg [0,0] [(1,Pt b1 0),(3,I (Kd p.entries)),(13,Bo (!decide (Kd p.entries=0)))] ?_
 refine Jo (!decide (Kd p.entries=0)) (fun h2=>?_) (fun h2=>?_)
 try simp only [BB] at h2
 refine Jg [0,0] [(2,I (Kd p.entries))] (Jk (Jh ?_))
 refine Jl [0] [I (Kd p.entries)] (Jv (Jt.le_refl _) ?_)
 have hf_:(Qt p)=(Kd p.entries):=by
  unfold Qt;(rw [if_neg (by simp_all),if_pos ‹_›];done)
 · (try rw [hf_]);(simp only [JM];done)
 try simp only [BB] at h2
 refine Jm (Ja (Je (Jb ?_)))
 refine Jc [0,2] [(1,Pt b1 0),(16,Sr p.name)] ?_
 refine Ji 17 (Sr (way p.name)) (JbB G p.name w1) ?_
 refine Ju 4 #[Sr ([])] 9 (fun b2=>?_)
 refine Kb [3] [(1,Pt b1 0),(4,Pt b2 0)] [[Sg b2 0 [Sr (way p.name)]],[Sg b1 0 (W7 p a1 c1 a2 c2)]] (Jd (Ja (Je (Je (Jb ?_)))))
 refine Jc [0,4,0] [(1,Pt b1 0),(19,Sl a1 p.entries.length c1),(20,.func (.func 207) #[] #[Pt b2 0])] ?_
 refine QJ (b:=b2) (o:=0) (cs:=[Sr (way p.name)]) 0 (fun G1 hl1 hz1=>?_)
 refine Ji 21 (Bo (p.entries.any (fun x0=>Vs x0 (way p.name)))) (JiU G1 a1 c1 p.entries (hs1.mono hl1) 207 #[Pt b2 0] (fun x0=>Vs x0 (way p.name)) (fun _ _=>by kernel_rfl) (fun vs0 x0 hx0=>by obtain ⟨rfl,w2,w3⟩:=hx0;exact Jhr G1 [Sr x0.name,Sr x0.value] x0 (⟨rfl,w2,w3⟩) [Sr (way p.name)] (way p.name) (⟨rfl,(Nat.le_trans (Jlt p.name) (by decide))⟩) b2 hz1)) ?_
 refine Jc [0] [(1,Pt b1 0),(22,Bo (p.entries.any (fun x0=>Vs x0 (way p.name))))] ?_
 refine Ky (p.entries.any (fun x0=>Vs x0 (way p.name))) (fun bb=>[(1,Pt b1 0),(22,Bo bb)]) [1,1,1,1,0] [0,4,0,0,0] (fun bb=>[(1,Pt b1 0),(27,Bo (bb || (!decide ((p.sides.length:Int)=16))))]) ?_
 refine Jc [0] [(1,Pt b1 0),(28,Bo ((p.entries.any (fun x0=>Vs x0 (way p.name))) || (!decide ((p.sides.length:Int)=16))))] ?_
 refine QZ (fun bb=>[(1,Pt b1 0),(28,Bo bb)]) ((p.entries.any (fun x0=>Vs x0 (way p.name))) || (!decide ((p.sides.length:Int)=16))) (fun h3=>?_) (fun h3=>?_)
 try simp only [BB] at h3
 refine Jc [1,1,1,0] [(32,Bo true)] (Jd (Ja ?_))
 refine J0 ?_
 refine Jg [0] [(2,I 3)] (Jk (Jh ?_))
 refine Jl [0] [I 3] (Jv hl1 ?_)
 have hf_:(Qt p)=3:=by
  unfold Qt;(rw [if_neg (by simp_all),if_neg (by omega)];(rw [if_pos (by simp_all)];done))
 · (try rw [hf_]);(simp only [JM];done)
 try simp only [BB] at h3
 refine Jc [0,4] [(28,Bo false),(30,Sl a2 p.sides.length c2)] ?_
 refine Ji 31 (Bo (p.sides.any (fun x0=>V7 x0))) (Jls G1 a2 c2 p.sides (hs2.mono hl1) 209 #[] (fun x0=>V7 x0) (fun _ _=>by kernel_rfl) (fun x0 hx0=>Jhs G1 x0)) ?_
 refine Jc [0] [(32,Bo (p.sides.any (fun x0=>V7 x0)))] (Jd (Ja ?_))
 refine Jo (p.sides.any (fun x0=>V7 x0)) (fun h4=>?_) (fun h4=>?_)
 try simp only [BB] at h4
 refine Jg [0] [(2,I 3)] (Jk (Jh ?_))
 refine Jl [0] [I 3] (Jv hl1 ?_)
 have hf_:(Qt p)=3:=by
  unfold Qt;(rw [if_neg (by simp_all),if_neg (by omega)];(rw [if_pos (by simp_all)];done))
 · (try rw [hf_]);(simp only [JM];done)
 try simp only [BB] at h4
 refine Jm (Ja ?_)
 refine Jg [0] [(2,I 0)] (Jk ?_)
 refine Jl [0] [I 0] (Jv hl1 ?_)
 have hf_:(Qt p)=0:=by
  unfold Qt;(rw [if_neg (by simp_all),if_neg (by omega)];(rw [if_neg (by simp_all)];done))
 · (try rw [hf_]);(simp only [JM];done)
set_option maxRecDepth 20000 in
theorem Jd3 (G:Jt) (vs_p:List Value) (p:WF) (h_p:Jdp.R G vs_p p) :QE Tryz.prog 184 #[.agg vs_p.toArray] G [] (fun u G' L'=>∃ (a1:Option Addr) (c2:Nat),u=.tuple #[Sl a1 (((KS p).1).length) c2,I ((KS p).2)]∧(RS ES G' a1 c2 ((KS p).1))∧L'=[]):=by
 obtain ⟨a1,c1,a2,c2,rfl,w1,hs1,hs2⟩:=h_p
 refine JL Tryz.func184 74 [(0,(Zv p a1 c1 a2 c2))] rfl (fun w0 G0=>?_)
 refine Je (Jb ?_)
 refine Ju 1 #[Sr p.name,Sl a1 p.entries.length c1,Sl a2 p.sides.length c2] 68 (fun b1=>?_)
 refine Jc [0,0] [(1,Pt b1 0)] (Jd (Ja (Je (Je (Jb ?_)))))
 refine Jc [2] [(1,Pt b1 0),(15,(Zv p a1 c1 a2 c2))] ?_
 refine Ji 16 (I (Qt p)) (JdA G (W7 p a1 c1 a2 c2) p (⟨a1,c1,a2,c2,rfl,w1,hs1,hs2⟩)) ?_
 refine Jc [0] [(1,Pt b1 0),(4,I (Qt p))] (Jd (Ja ?_))
 refine Jg [0,0] [(1,Pt b1 0),(4,I (Qt p)),(18,Bo (!decide (Qt p=0)))] ?_
 refine Jo (!decide (Qt p=0)) (fun h1=>?_) (fun h1=>?_)
 try simp only [BB] at h1
 refine Jg [0,0,0] [(2,Sl none 0 0),(3,I (Qt p))] (Jk (Jh ?_))
 have hf1:KS p=([],Qt p):=by
  unfold KS;(simp_all;done)
 refine Jl [0,0] [Sl none 0 0,I (Qt p)] (JY [] (.cons _ .slnil) (Jt.le_refl _) ?_)
 rw [hf1]
 try dsimp only
 exact ⟨none,0,rfl,(RS.nil' ES G),rfl⟩
 try simp only [BB] at h1
 refine Jm (Ja (Je (Jb ?_)))
 refine Ji 21 (.tuple #[Sr ((Jw ([])).1),I ((Jw ([])).2)]) (JbA G none 0 ([]) (RS.nil' Qj G)) ?_
 refine Jc [0,0,0,0,0] [(1,Pt b1 0),(5,Sr ((Jw ([])).1))] (Jd (Ja (Je (Jb ?_))))
 refine Jc [0,2] [(1,Pt b1 0),(5,Sr ((Jw ([])).1)),(26,Sl a1 p.entries.length c1)] ?_
 refine Ji 27 (.tuple #[Sr ((Jw p.entries).1),I ((Jw p.entries).2)]) (JbA G a1 c1 p.entries hs1) ?_
 refine Jc [0,0,0,0,0] [(1,Pt b1 0),(5,Sr ((Jw ([])).1)),(7,Sr ((Jw p.entries).1))] (Jd (Ja (Je (Jb ?_))))
 refine Jc [0] [(1,Pt b1 0),(5,Sr ((Jw ([])).1)),(7,Sr ((Jw p.entries).1)),(30,Sr ((Jw p.entries).1))] ?_
 refine KC 31 1 #[Sr ((Jw p.entries).1)] 9 (fun b2=>?_)
 refine Jc [0] [(1,Pt b1 0),(5,Sr ((Jw ([])).1)),(7,Sr ((Jw p.entries).1)),(9,Sl (At b2 0) 1 1)] (Jd (Ja (Je (Jb ?_))))
 refine Jc [0,4] [(1,Pt b1 0),(5,Sr ((Jw ([])).1)),(7,Sr ((Jw p.entries).1)),(9,Sl (At b2 0) 1 1),(33,Sr p.name)] ?_
 refine Ji 34 (Sr (way p.name)) (JbB G p.name w1) ?_
 refine Jc [0] [(1,Pt b1 0),(5,Sr ((Jw ([])).1)),(7,Sr ((Jw p.entries).1)),(9,Sl (At b2 0) 1 1),(10,Sr (way p.name))] (Jd (Ja (Je ?_)))
 refine Jg [0,4,0,0] [(5,Sr ((Jw ([])).1)),(7,Sr ((Jw p.entries).1)),(9,Sl (At b2 0) 1 1),(10,Sr (way p.name)),(36,Sl a2 p.sides.length c2),(37,I (p.sides.length:Int)),(38,I 0)] (Jy ?_)
 have hlm_hs2:p.sides.length≤9223372036854775807:=Nat.le_trans (hs2).le (hs2).max
 refine Qb (σ:=Nat×List UInt8×Option Addr×Nat×List Kq×List (List UInt8)×Jt) (fun q_=>(Jt.le G q_.2.2.2.2.2.2)∧(q_.1≤p.sides.length)∧(q_.2.1.length≤14401)∧(J8 ES q_.2.2.2.2.2.2 q_.2.2.1 q_.2.2.2.1 q_.2.2.2.2.2.1 q_.2.2.2.2.1)∧(q_.2.2.2.2.2.1=(Jbz (way p.name) 0 (Jw p.entries).1 p.sides).take (q_.1+1))∧((Jbz (way p.name) 0 (Jw p.entries).1 p.sides)[q_.1]? = some q_.2.1)) (fun q_=>[(5,Sr ((Jw ([])).1)),(7,Sr q_.2.1),(9,Sl q_.2.2.1 q_.2.2.2.2.2.1.length q_.2.2.2.1),(10,Sr (way p.name)),(36,Sl a2 p.sides.length c2),(37,I (p.sides.length:Int)),(38,I (q_.1:Int))]) (fun q_=>q_.2.2.2.2.2.2) (fun q_=>[q_.2.2.2.2.1,[Sg b1 0 (W7 p a1 c1 a2 c2)]]) (fun q_=>p.sides.length-q_.1) (0,(Jw p.entries).1,At b2 0,1,[Sg b2 0 [Sr ((Jw p.entries).1)]],[(Jw p.entries).1],G) ⟨(Jt.le_refl _),(by (try dsimp only);exact Nat.zero_le _),(Zg _),(J8.of_lit [[Sr ((Jw p.entries).1)]] [(Jw p.entries).1] ⟨⟨rfl,(Nat.le_trans (Zg _) (by decide))⟩,trivial⟩ (by simp)),(Jhq _ _ _ _),(Jkw _ _ _ _)⟩ (fun q_ hs=>?_)
 obtain ⟨i,s,ao,co,ro,xo,g⟩:=q_
 obtain ⟨hle,hi,hs,hro,hxo,hs_⟩:=hs
 dsimp only at hle hi hs hro hxo hs_
 refine KJ (fr':=[(5,Sr ((Jw ([])).1)),(7,Sr s),(9,Sl ao xo.length co),(10,Sr (way p.name)),(36,Sl a2 p.sides.length c2),(37,I (p.sides.length:Int)),(38,I (i:Int))]) (L':=[ro,[Sg b1 0 (W7 p a1 c1 a2 c2)]]) rfl rfl ?_
 refine Jg [0] [(5,Sr ((Jw ([])).1)),(7,Sr s),(9,Sl ao xo.length co),(10,Sr (way p.name)),(36,Sl a2 p.sides.length c2),(37,I (p.sides.length:Int)),(38,I (i:Int)),(39,Bo (decide ((i:Int)<(p.sides.length:Int))))] (Je ?_)
 refine Jo (decide ((i:Int)<(p.sides.length:Int))) (fun h2=>?_) (fun h2=>?_)
 try simp only [BB] at h2
 refine Jm (Ja (Je (Jy (Je (Jb ?_)))))
 refine Jc [0] [(5,Sr ((Jw ([])).1)),(7,Sr s),(9,Sl ao xo.length co),(10,Sr (way p.name)),(36,Sl a2 p.sides.length c2),(37,I (p.sides.length:Int)),(38,I (i:Int)),(40,I (i:Int))] ?_
 obtain ⟨b3,o1,rfl⟩:=RS.addr (hs2.mono hle) (k:=i) (by omega)
 obtain ⟨x1,hx1⟩:=Q8 (l:=p.sides) (k:=i) (by omega)
 obtain ⟨_,⟨rfl,_⟩,hc1⟩:=RS.get (hs2.mono hle) hx1
 refine Kh (b:=b3) (off:=o1) (len:=p.sides.length) (cap:=c2) (ik:=.i64) 41 48 1 i (by omega) ?_
 refine J9 42 48 (cs:=[U x1]) 0 (U x1) hc1 ?_
 refine Jc [0,0] [(5,Sr ((Jw ([])).1)),(7,Sr s),(9,Sl ao xo.length co),(10,Sr (way p.name)),(11,I (i:Int)),(12,U x1),(36,Sl (At b3 o1) p.sides.length c2),(37,I (p.sides.length:Int)),(38,I (i:Int))] (Jd (Ja (Je (Jb ?_))))
 refine Jc [0] [(5,Sr ((Jw ([])).1)),(9,Sl ao xo.length co),(10,Sr (way p.name)),(11,I (i:Int)),(12,U x1),(36,Sl (At b3 o1) p.sides.length c2),(37,I (p.sides.length:Int)),(38,I (i:Int)),(43,Sr s)] ?_
 refine Ji 44 (U (Jf s)) (Zm s (Jbf (by omega)) g) ?_
 refine Jc [0,0,0] [(5,Sr ((Jw ([])).1)),(9,Sl ao xo.length co),(10,Sr (way p.name)),(11,I (i:Int)),(13,U (Jf s)),(14,U x1),(36,Sl (At b3 o1) p.sides.length c2),(37,I (p.sides.length:Int)),(38,I (i:Int))] (Jd (Ja (Je (Je (Jb ?_)))))
 refine Jc [0,0,0] [(5,Sr ((Jw ([])).1)),(9,Sl ao xo.length co),(10,Sr (way p.name)),(13,U (Jf s)),(14,U x1),(36,Sl (At b3 o1) p.sides.length c2),(37,I (p.sides.length:Int)),(38,I (i:Int)),(46,Sr (way p.name)),(48,I (IntKind.i64.wrap (15-(i:Int))))] ?_
 have e1:IntKind.i64.wrap (15-(i:Int))=15-(i:Int):=IntWalk.i64_in _ (by omega)
 refine J2 (fr':=[(5,Sr ((Jw ([])).1)),(9,Sl ao xo.length co),(10,Sr (way p.name)),(13,U (Jf s)),(14,U x1),(36,Sl (At b3 o1) p.sides.length c2),(37,I (p.sides.length:Int)),(38,I (i:Int)),(46,Sr (way p.name)),(48,I (15-(i:Int)))]) (L':=[ro,[Sg b1 0 [Sr p.name,Sl a1 p.entries.length c1,Sl (At b3 o1) p.sides.length c2]]]) (by simp only [W7,Zv,e1];first | done | rfl) (by rfl) ?_
 clear e1
 obtain ⟨kn1,hkn1⟩:∃ k_:Nat,15-(i:Int)=(k_:Int):=⟨(15-(i:Int)).toNat,by (have q_:=QX.1 ‹_›;have q1_:=Vt q_.name;have q2_:=q_.sides;omega)⟩
 have e2:15-(i:Int)=(kn1:Int):=hkn1
 refine Jc [] [(5,Sr ((Jw ([])).1)),(9,Sl ao xo.length co),(10,Sr (way p.name)),(13,U (Jf s)),(14,U x1),(36,Sl (At b3 o1) p.sides.length c2),(37,I (p.sides.length:Int)),(38,I (i:Int)),(46,Sr (way p.name)),(48,I (15-(i:Int)))] ?_
 refine J2 (fr':=[(5,Sr ((Jw ([])).1)),(9,Sl ao xo.length co),(10,Sr (way p.name)),(13,U (Jf s)),(14,U x1),(36,Sl (At b3 o1) p.sides.length c2),(37,I (p.sides.length:Int)),(38,I (i:Int)),(46,Sr (way p.name)),(48,I (kn1:Int))]) (L':=[ro,[Sg b1 0 [Sr p.name,Sl a1 p.entries.length c1,Sl (At b3 o1) p.sides.length c2]]]) (by (simp only [W7,Zv,e2];first | done | rfl)) (by rfl) ?_
 obtain ⟨y1,hy1⟩:=Q8 (l:=way p.name) (k:=kn1) (by (have q_:=QX.1 ‹_›;have q1_:=Vt q_.name;have q2_:=q_.sides;omega))
 have hb_y1:=y1.toNat_lt
 refine VO (ik:=.i64) 49 kn1 y1 hy1 ?_
 refine Jc [0] [(5,Sr ((Jw ([])).1)),(9,Sl ao xo.length co),(10,Sr (way p.name)),(13,U (Jf s)),(14,U x1),(36,Sl (At b3 o1) p.sides.length c2),(37,I (p.sides.length:Int)),(38,I (i:Int)),(50,Bo (decide ((y1.toNat:Int)=49)))] (Jd (Ja ?_))
 refine Jo (decide ((y1.toNat:Int)=49)) (fun h3=>?_) (fun h3=>?_)
 try simp only [BB] at h3
 refine Jb ?_
 refine Jc [0,0,0,0] [(5,Sr ((Jw ([])).1)),(9,Sl ao xo.length co),(10,Sr (way p.name)),(13,U x1),(14,U (Jf s)),(36,Sl (At b3 o1) p.sides.length c2),(37,I (p.sides.length:Int)),(38,I (i:Int))] (Jd (Ja (Je ?_)))
 refine Jg [0,0] [(5,Sr ((Jw ([])).1)),(7,Sr ((Jw ([])).1)),(9,Sl ao xo.length co),(10,Sr (way p.name)),(13,U x1),(14,U (Jf s)),(36,Sl (At b3 o1) p.sides.length c2),(37,I (p.sides.length:Int)),(38,I (i:Int))] (Je (Jb ?_))
 refine Jc [0,0,0,0] [(5,Sr ((Jw ([])).1)),(7,Sr ((Jw ([])).1)),(9,Sl ao xo.length co),(10,Sr (way p.name)),(13,U x1),(14,U (Jf s)),(36,Sl (At b3 o1) p.sides.length c2),(37,I (p.sides.length:Int)),(38,I (i:Int)),(56,U (if (Jf s) > x1 then (Jf s) else x1)),(57,Sr ((Jw ([])).1))] ?_
 refine Ji 58 (U (Jf ((Jw ([])).1))) (Zm ((Jw ([])).1) (Jbf (Nat.le_trans (Zg _) (by decide))) g) ?_
 refine Jc [0,0] [(5,Sr ((Jw ([])).1)),(7,Sr ((Jw ([])).1)),(9,Sl ao xo.length co),(10,Sr (way p.name)),(13,U x1),(14,U (Jf s)),(36,Sl (At b3 o1) p.sides.length c2),(37,I (p.sides.length:Int)),(38,I (i:Int)),(60,Bo (!decide ((if (Jf s) > x1 then (Jf s) else x1)=Jf ((Jw ([])).1))))] ?_
 refine Ky (!decide ((if (Jf s) > x1 then (Jf s) else x1)=Jf ((Jw ([])).1))) (fun bb=>[(5,Sr ((Jw ([])).1)),(7,Sr ((Jw ([])).1)),(9,Sl ao xo.length co),(10,Sr (way p.name)),(13,U x1),(14,U (Jf s)),(36,Sl (At b3 o1) p.sides.length c2),(37,I (p.sides.length:Int)),(38,I (i:Int)),(60,Bo bb)]) [1,1,1,0] [0,0,0,0] (fun bb=>[(5,Sr ((Jw ([])).1)),(7,Sr ((Jw ([])).1)),(9,Sl ao xo.length co),(10,Sr (way p.name)),(13,U x1),(14,U (Jf s)),(36,Sl (At b3 o1) p.sides.length c2),(37,I (p.sides.length:Int)),(38,I (i:Int)),(64,Bo (bb || (!decide (x1=Jf s))))]) ?_
 refine Jd (Ja ?_)
 refine Jo ((!decide ((if (Jf s) > x1 then (Jf s) else x1)=Jf ((Jw ([])).1))) || (!decide (x1=Jf s))) (fun h4=>?_) (fun h4=>?_)
 try simp only [BB] at h4
 refine Jb ?_
 refine Jc [0,0] [(5,Sr ((Jw ([])).1)),(7,Sr ((Jw ([])).1)),(9,Sl ao xo.length co),(10,Sr (way p.name)),(36,Sl (At b3 o1) p.sides.length c2),(37,I (p.sides.length:Int)),(38,I (i:Int)),(65,U x1),(66,U (Jf s))] ?_
 refine Ji 67 (Sr (Kx 2 x1 (Jf s))) (V1 2 x1 (Jf s) g) ?_
 refine Jc [0] [(5,Sr ((Jw ([])).1)),(7,Sr (Kx 2 x1 (Jf s))),(9,Sl ao xo.length co),(10,Sr (way p.name)),(36,Sl (At b3 o1) p.sides.length c2),(37,I (p.sides.length:Int)),(38,I (i:Int))] (Jd (Ja (Jb ?_)))
 refine Jc [0,0] [(5,Sr ((Jw ([])).1)),(7,Sr (Kx 2 x1 (Jf s))),(9,Sl ao xo.length co),(10,Sr (way p.name)),(36,Sl (At b3 o1) p.sides.length c2),(37,I (p.sides.length:Int)),(38,I (i:Int)),(68,Sl ao xo.length co),(69,Sr (Kx 2 x1 (Jf s)))] ?_
 refine KC 70 1 #[Sr (Kx 2 x1 (Jf s))] 9 (fun b4=>?_)
 refine QC (b:=b4) (cs:=[Sr (Kx 2 x1 (Jf s))]) 71 9 1 0 (E:=ES) (Kx 2 x1 (Jf s)) hro ⟨rfl,(by rw [Zb];decide)⟩ (by have q_:=QX.1 ‹_›;have q1_:=Vt q_.name;have q2_:=q_.sides;have q3_:=congrArg List.length hxo;have q4_:=ZK (way p.name) p.sides 0 (Jw p.entries).1;rw [List.length_take] at q3_;(try simp only [ES,List.length_append,List.length_cons,List.length_nil] at *);omega) (by have q_:=QX.1 ‹_›;have q1_:=Vt q_.name;have q2_:=q_.sides;have q3_:=congrArg List.length hxo;have q4_:=ZK (way p.name) p.sides 0 (Jw p.entries).1;rw [List.length_take] at q3_;(try simp only [ES,List.length_append,List.length_cons,List.length_nil] at *);omega) (fun a3 c3 r1 hr1=>?_)
 refine Jc [0] [(5,Sr ((Jw ([])).1)),(7,Sr (Kx 2 x1 (Jf s))),(9,Sl a3 ((xo++[Kx 2 x1 (Jf s)]).length) c3),(10,Sr (way p.name)),(36,Sl (At b3 o1) p.sides.length c2),(37,I (p.sides.length:Int)),(38,I (i:Int))] (Jd (JK (Ja (Jb ?_))))
 refine Jc [0,0] [(5,Sr ((Jw ([])).1)),(7,Sr (Kx 2 x1 (Jf s))),(9,Sl a3 ((xo++[Kx 2 x1 (Jf s)]).length) c3),(10,Sr (way p.name)),(36,Sl (At b3 o1) p.sides.length c2),(37,I (p.sides.length:Int)),(38,I (IntKind.i64.wrap ((i:Int)+1)))] ?_
 have e3:IntKind.i64.wrap ((i:Int)+1)=(i:Int)+1:=IntWalk.i64_in _ (by omega)
 refine J2 (fr':=[(5,Sr ((Jw ([])).1)),(7,Sr (Kx 2 x1 (Jf s))),(9,Sl a3 ((xo++[Kx 2 x1 (Jf s)]).length) c3),(10,Sr (way p.name)),(36,Sl (At b3 o1) p.sides.length c2),(37,I (p.sides.length:Int)),(38,I ((i:Int)+1))]) (L':=[[Sg b4 0 [Sr (Kx 2 x1 (Jf s))]],r1,[Sg b1 0 [Sr p.name,Sl a1 p.entries.length c1,Sl (At b3 o1) p.sides.length c2]]]) (by simp only [W7,Zv,e3];first | done | rfl) (by rfl) ?_
 clear e3
 refine Jd ?_
 refine QY [r1,[Sg b1 0 (W7 p a1 c1 (At b3 o1) c2)]] (.cons _ (.cons_cons _ (.cons_cons _ .slnil))) ?_
 exact Qd (i+1,Kx 2 x1 (Jf s),a3,c3,r1,xo++[Kx 2 x1 (Jf s)],g) ⟨(Jt.le_trans hle (Jt.le_refl _)),(by omega),(by have q0_:=Zb;(rw [q0_];decide)),hr1,(by (try dsimp only);have q0_:=Yu hxo hs_ hx1;have q1_:YW (way p.name) i s x1=Kx 2 x1 (Jf s):=(by (rw [Jc6 (by omega) hy1 ‹_›]);exact Jc5 ‹_›);rw [q1_] at q0_;exact q0_.1),(by (try dsimp only);have q0_:=Yu hxo hs_ hx1;have q1_:YW (way p.name) i s x1=Kx 2 x1 (Jf s):=(by (rw [Jc6 (by omega) hy1 ‹_›]);exact Jc5 ‹_›);rw [q1_] at q0_;exact q0_.2)⟩ (by (try dsimp only);omega)
 try simp only [BB] at h4
 refine Jm (Ja (Jb ?_))
 refine Jc [0,0] [(5,Sr ((Jw ([])).1)),(7,Sr ((Jw ([])).1)),(9,Sl ao xo.length co),(10,Sr (way p.name)),(36,Sl (At b3 o1) p.sides.length c2),(37,I (p.sides.length:Int)),(38,I (i:Int)),(68,Sl ao xo.length co),(69,Sr ((Jw ([])).1))] ?_
 refine KC 70 1 #[Sr ((Jw ([])).1)] 9 (fun b5=>?_)
 refine QC (b:=b5) (cs:=[Sr ((Jw ([])).1)]) 71 9 1 0 (E:=ES) ((Jw ([])).1) hro ⟨rfl,(Nat.le_trans (Zg _) (by decide))⟩ (by have q_:=QX.1 ‹_›;have q1_:=Vt q_.name;have q2_:=q_.sides;have q3_:=congrArg List.length hxo;have q4_:=ZK (way p.name) p.sides 0 (Jw p.entries).1;rw [List.length_take] at q3_;(try simp only [ES,List.length_append,List.length_cons,List.length_nil] at *);omega) (by have q_:=QX.1 ‹_›;have q1_:=Vt q_.name;have q2_:=q_.sides;have q3_:=congrArg List.length hxo;have q4_:=ZK (way p.name) p.sides 0 (Jw p.entries).1;rw [List.length_take] at q3_;(try simp only [ES,List.length_append,List.length_cons,List.length_nil] at *);omega) (fun a4 c4 r2 hr2=>?_)
 refine Jc [0] [(5,Sr ((Jw ([])).1)),(7,Sr ((Jw ([])).1)),(9,Sl a4 ((xo++[(Jw ([])).1]).length) c4),(10,Sr (way p.name)),(36,Sl (At b3 o1) p.sides.length c2),(37,I (p.sides.length:Int)),(38,I (i:Int))] (Jd (JK (Ja (Jb ?_))))
 refine Jc [0,0] [(5,Sr ((Jw ([])).1)),(7,Sr ((Jw ([])).1)),(9,Sl a4 ((xo++[(Jw ([])).1]).length) c4),(10,Sr (way p.name)),(36,Sl (At b3 o1) p.sides.length c2),(37,I (p.sides.length:Int)),(38,I (IntKind.i64.wrap ((i:Int)+1)))] ?_
 have e4:IntKind.i64.wrap ((i:Int)+1)=(i:Int)+1:=IntWalk.i64_in _ (by omega)
 refine J2 (fr':=[(5,Sr ((Jw ([])).1)),(7,Sr ((Jw ([])).1)),(9,Sl a4 ((xo++[(Jw ([])).1]).length) c4),(10,Sr (way p.name)),(36,Sl (At b3 o1) p.sides.length c2),(37,I (p.sides.length:Int)),(38,I ((i:Int)+1))]) (L':=[[Sg b5 0 [Sr ((Jw ([])).1)]],r2,[Sg b1 0 [Sr p.name,Sl a1 p.entries.length c1,Sl (At b3 o1) p.sides.length c2]]]) (by simp only [W7,Zv,e4];first | done | rfl) (by rfl) ?_
 clear e4
 refine Jd ?_
 refine QY [r2,[Sg b1 0 (W7 p a1 c1 (At b3 o1) c2)]] (.cons _ (.cons_cons _ (.cons_cons _ .slnil))) ?_
 exact Qd (i+1,(Jw ([])).1,a4,c4,r2,xo++[(Jw ([])).1],g) ⟨(Jt.le_trans hle (Jt.le_refl _)),(by omega),(by have q0_:=Zb;exact Zg _),hr2,(by (try dsimp only);have q0_:=Yu hxo hs_ hx1;have q1_:YW (way p.name) i s x1=(Jw ([])).1:=(by (rw [Jc6 (by omega) hy1 ‹_›]);exact Jc4 ‹_›);rw [q1_] at q0_;exact q0_.1),(by (try dsimp only);have q0_:=Yu hxo hs_ hx1;have q1_:YW (way p.name) i s x1=(Jw ([])).1:=(by (rw [Jc6 (by omega) hy1 ‹_›]);exact Jc4 ‹_›);rw [q1_] at q0_;exact q0_.2)⟩ (by (try dsimp only);omega)
 try simp only [BB] at h3
 refine Jm (Ja (Je ?_))
 refine Jg [0,0] [(5,Sr ((Jw ([])).1)),(7,Sr ((Jw ([])).1)),(9,Sl ao xo.length co),(10,Sr (way p.name)),(13,U (Jf s)),(14,U x1),(36,Sl (At b3 o1) p.sides.length c2),(37,I (p.sides.length:Int)),(38,I (i:Int))] (Je (Jb ?_))
 refine Jc [0,0,0,0] [(5,Sr ((Jw ([])).1)),(7,Sr ((Jw ([])).1)),(9,Sl ao xo.length co),(10,Sr (way p.name)),(13,U (Jf s)),(14,U x1),(36,Sl (At b3 o1) p.sides.length c2),(37,I (p.sides.length:Int)),(38,I (i:Int)),(56,U (if x1 > (Jf s) then x1 else (Jf s))),(57,Sr ((Jw ([])).1))] ?_
 refine Ji 58 (U (Jf ((Jw ([])).1))) (Zm ((Jw ([])).1) (Jbf (Nat.le_trans (Zg _) (by decide))) g) ?_
 refine Jc [0,0] [(5,Sr ((Jw ([])).1)),(7,Sr ((Jw ([])).1)),(9,Sl ao xo.length co),(10,Sr (way p.name)),(13,U (Jf s)),(14,U x1),(36,Sl (At b3 o1) p.sides.length c2),(37,I (p.sides.length:Int)),(38,I (i:Int)),(60,Bo (!decide ((if x1 > (Jf s) then x1 else (Jf s))=Jf ((Jw ([])).1))))] ?_
 refine Ky (!decide ((if x1 > (Jf s) then x1 else (Jf s))=Jf ((Jw ([])).1))) (fun bb=>[(5,Sr ((Jw ([])).1)),(7,Sr ((Jw ([])).1)),(9,Sl ao xo.length co),(10,Sr (way p.name)),(13,U (Jf s)),(14,U x1),(36,Sl (At b3 o1) p.sides.length c2),(37,I (p.sides.length:Int)),(38,I (i:Int)),(60,Bo bb)]) [1,1,1,0] [0,0,0,0] (fun bb=>[(5,Sr ((Jw ([])).1)),(7,Sr ((Jw ([])).1)),(9,Sl ao xo.length co),(10,Sr (way p.name)),(13,U (Jf s)),(14,U x1),(36,Sl (At b3 o1) p.sides.length c2),(37,I (p.sides.length:Int)),(38,I (i:Int)),(64,Bo (bb || (!decide (Jf s=x1))))]) ?_
 refine Jd (Ja ?_)
 refine Jo ((!decide ((if x1 > (Jf s) then x1 else (Jf s))=Jf ((Jw ([])).1))) || (!decide (Jf s=x1))) (fun h5=>?_) (fun h5=>?_)
 try simp only [BB] at h5
 refine Jb ?_
 refine Jc [0,0] [(5,Sr ((Jw ([])).1)),(7,Sr ((Jw ([])).1)),(9,Sl ao xo.length co),(10,Sr (way p.name)),(36,Sl (At b3 o1) p.sides.length c2),(37,I (p.sides.length:Int)),(38,I (i:Int)),(65,U (Jf s)),(66,U x1)] ?_
 refine Ji 67 (Sr (Kx 2 (Jf s) x1)) (V1 2 (Jf s) x1 g) ?_
 refine Jc [0] [(5,Sr ((Jw ([])).1)),(7,Sr (Kx 2 (Jf s) x1)),(9,Sl ao xo.length co),(10,Sr (way p.name)),(36,Sl (At b3 o1) p.sides.length c2),(37,I (p.sides.length:Int)),(38,I (i:Int))] (Jd (Ja (Jb ?_)))
 refine Jc [0,0] [(5,Sr ((Jw ([])).1)),(7,Sr (Kx 2 (Jf s) x1)),(9,Sl ao xo.length co),(10,Sr (way p.name)),(36,Sl (At b3 o1) p.sides.length c2),(37,I (p.sides.length:Int)),(38,I (i:Int)),(68,Sl ao xo.length co),(69,Sr (Kx 2 (Jf s) x1))] ?_
 refine KC 70 1 #[Sr (Kx 2 (Jf s) x1)] 9 (fun b6=>?_)
 refine QC (b:=b6) (cs:=[Sr (Kx 2 (Jf s) x1)]) 71 9 1 0 (E:=ES) (Kx 2 (Jf s) x1) hro ⟨rfl,(by rw [Zb];decide)⟩ (by have q_:=QX.1 ‹_›;have q1_:=Vt q_.name;have q2_:=q_.sides;have q3_:=congrArg List.length hxo;have q4_:=ZK (way p.name) p.sides 0 (Jw p.entries).1;rw [List.length_take] at q3_;(try simp only [ES,List.length_append,List.length_cons,List.length_nil] at *);omega) (by have q_:=QX.1 ‹_›;have q1_:=Vt q_.name;have q2_:=q_.sides;have q3_:=congrArg List.length hxo;have q4_:=ZK (way p.name) p.sides 0 (Jw p.entries).1;rw [List.length_take] at q3_;(try simp only [ES,List.length_append,List.length_cons,List.length_nil] at *);omega) (fun a5 c5 r3 hr3=>?_)
 refine Jc [0] [(5,Sr ((Jw ([])).1)),(7,Sr (Kx 2 (Jf s) x1)),(9,Sl a5 ((xo++[Kx 2 (Jf s) x1]).length) c5),(10,Sr (way p.name)),(36,Sl (At b3 o1) p.sides.length c2),(37,I (p.sides.length:Int)),(38,I (i:Int))] (Jd (JK (Ja (Jb ?_))))
 refine Jc [0,0] [(5,Sr ((Jw ([])).1)),(7,Sr (Kx 2 (Jf s) x1)),(9,Sl a5 ((xo++[Kx 2 (Jf s) x1]).length) c5),(10,Sr (way p.name)),(36,Sl (At b3 o1) p.sides.length c2),(37,I (p.sides.length:Int)),(38,I (IntKind.i64.wrap ((i:Int)+1)))] ?_
 have e5:IntKind.i64.wrap ((i:Int)+1)=(i:Int)+1:=IntWalk.i64_in _ (by omega)
 refine J2 (fr':=[(5,Sr ((Jw ([])).1)),(7,Sr (Kx 2 (Jf s) x1)),(9,Sl a5 ((xo++[Kx 2 (Jf s) x1]).length) c5),(10,Sr (way p.name)),(36,Sl (At b3 o1) p.sides.length c2),(37,I (p.sides.length:Int)),(38,I ((i:Int)+1))]) (L':=[[Sg b6 0 [Sr (Kx 2 (Jf s) x1)]],r3,[Sg b1 0 [Sr p.name,Sl a1 p.entries.length c1,Sl (At b3 o1) p.sides.length c2]]]) (by simp only [W7,Zv,e5];first | done | rfl) (by rfl) ?_
 clear e5
 refine Jd ?_
 refine QY [r3,[Sg b1 0 (W7 p a1 c1 (At b3 o1) c2)]] (.cons _ (.cons_cons _ (.cons_cons _ .slnil))) ?_
 exact Qd (i+1,Kx 2 (Jf s) x1,a5,c5,r3,xo++[Kx 2 (Jf s) x1],g) ⟨(Jt.le_trans hle (Jt.le_refl _)),(by omega),(by have q0_:=Zb;(rw [q0_];decide)),hr3,(by (try dsimp only);have q0_:=Yu hxo hs_ hx1;have q1_:YW (way p.name) i s x1=Kx 2 (Jf s) x1:=(by (rw [Jc7 (by omega) hy1 ‹_›]);exact Jc5 ‹_›);rw [q1_] at q0_;exact q0_.1),(by (try dsimp only);have q0_:=Yu hxo hs_ hx1;have q1_:YW (way p.name) i s x1=Kx 2 (Jf s) x1:=(by (rw [Jc7 (by omega) hy1 ‹_›]);exact Jc5 ‹_›);rw [q1_] at q0_;exact q0_.2)⟩ (by (try dsimp only);omega)
 try simp only [BB] at h5
 refine Jm (Ja (Jb ?_))
 refine Jc [0,0] [(5,Sr ((Jw ([])).1)),(7,Sr ((Jw ([])).1)),(9,Sl ao xo.length co),(10,Sr (way p.name)),(36,Sl (At b3 o1) p.sides.length c2),(37,I (p.sides.length:Int)),(38,I (i:Int)),(68,Sl ao xo.length co),(69,Sr ((Jw ([])).1))] ?_
 refine KC 70 1 #[Sr ((Jw ([])).1)] 9 (fun b7=>?_)
 refine QC (b:=b7) (cs:=[Sr ((Jw ([])).1)]) 71 9 1 0 (E:=ES) ((Jw ([])).1) hro ⟨rfl,(Nat.le_trans (Zg _) (by decide))⟩ (by have q_:=QX.1 ‹_›;have q1_:=Vt q_.name;have q2_:=q_.sides;have q3_:=congrArg List.length hxo;have q4_:=ZK (way p.name) p.sides 0 (Jw p.entries).1;rw [List.length_take] at q3_;(try simp only [ES,List.length_append,List.length_cons,List.length_nil] at *);omega) (by have q_:=QX.1 ‹_›;have q1_:=Vt q_.name;have q2_:=q_.sides;have q3_:=congrArg List.length hxo;have q4_:=ZK (way p.name) p.sides 0 (Jw p.entries).1;rw [List.length_take] at q3_;(try simp only [ES,List.length_append,List.length_cons,List.length_nil] at *);omega) (fun a6 c6 r4 hr4=>?_)
 refine Jc [0] [(5,Sr ((Jw ([])).1)),(7,Sr ((Jw ([])).1)),(9,Sl a6 ((xo++[(Jw ([])).1]).length) c6),(10,Sr (way p.name)),(36,Sl (At b3 o1) p.sides.length c2),(37,I (p.sides.length:Int)),(38,I (i:Int))] (Jd (JK (Ja (Jb ?_))))
 refine Jc [0,0] [(5,Sr ((Jw ([])).1)),(7,Sr ((Jw ([])).1)),(9,Sl a6 ((xo++[(Jw ([])).1]).length) c6),(10,Sr (way p.name)),(36,Sl (At b3 o1) p.sides.length c2),(37,I (p.sides.length:Int)),(38,I (IntKind.i64.wrap ((i:Int)+1)))] ?_
 have e6:IntKind.i64.wrap ((i:Int)+1)=(i:Int)+1:=IntWalk.i64_in _ (by omega)
 refine J2 (fr':=[(5,Sr ((Jw ([])).1)),(7,Sr ((Jw ([])).1)),(9,Sl a6 ((xo++[(Jw ([])).1]).length) c6),(10,Sr (way p.name)),(36,Sl (At b3 o1) p.sides.length c2),(37,I (p.sides.length:Int)),(38,I ((i:Int)+1))]) (L':=[[Sg b7 0 [Sr ((Jw ([])).1)]],r4,[Sg b1 0 [Sr p.name,Sl a1 p.entries.length c1,Sl (At b3 o1) p.sides.length c2]]]) (by simp only [W7,Zv,e6];first | done | rfl) (by rfl) ?_
 clear e6
 refine Jd ?_
 refine QY [r4,[Sg b1 0 (W7 p a1 c1 (At b3 o1) c2)]] (.cons _ (.cons_cons _ (.cons_cons _ .slnil))) ?_
 exact Qd (i+1,(Jw ([])).1,a6,c6,r4,xo++[(Jw ([])).1],g) ⟨(Jt.le_trans hle (Jt.le_refl _)),(by omega),(by have q0_:=Zb;exact Zg _),hr4,(by (try dsimp only);have q0_:=Yu hxo hs_ hx1;have q1_:YW (way p.name) i s x1=(Jw ([])).1:=(by (rw [Jc7 (by omega) hy1 ‹_›]);exact Jc4 ‹_›);rw [q1_] at q0_;exact q0_.1),(by (try dsimp only);have q0_:=Yu hxo hs_ hx1;have q1_:YW (way p.name) i s x1=(Jw ([])).1:=(by (rw [Jc7 (by omega) hy1 ‹_›]);exact Jc4 ‹_›);rw [q1_] at q0_;exact q0_.2)⟩ (by (try dsimp only);omega)
 try simp only [BB] at h2
 refine KU (J3 (Ke (JW (Ja ?_))))
 refine Jg [0,0,0] [(2,Sl ao xo.length co),(3,I 0)] (Jk ?_)
 refine We (E:=ES) 0 hro (by have q_:=QX.1 ‹_›;have q1_:=Vt q_.name;have q2_:=q_.sides;have q3_:=congrArg List.length hxo;have q4_:=ZK (way p.name) p.sides 0 (Jw p.entries).1;rw [List.length_take] at q3_;(try simp only [ES,List.length_append,List.length_cons,List.length_nil] at *);omega) (fun G1 hl1 hs3=>?_)
 have hf2:KS p=(xo,0):=by
  unfold KS;(rw [if_neg (by omega),hxo,List.take_of_length_le (by rw [ZK];omega)])
 refine Jl [0,0] [Sl ao xo.length co,I 0] (JY [] (.cons _ (.cons _ .slnil)) (Jt.le_trans hle hl1) ?_)
 rw [hf2]
 try dsimp only
 exact ⟨ao,co,rfl,hs3,rfl⟩
end Go.Proofs.YtnnlpbjdignhaaaGreatDoor
