import Derived.Test.YtnnlpbjdignhaaaGreatDoorTgSl
namespace Go.Proofs.YtnnlpbjdignhaaaGreatDoor
open Go.Tx
set_option linter.unusedVariables false
set_option linter.unusedSimpArgs false
def Jbd:Z5:=⟨0,[]⟩
def Jdu (l:JI) (n:Z5):Bool:=decide (l.due≤n.now)
def K1 (n:Z5):Int:=if n.now<0∨1000000000<n.now then 4 else if 60<n.way.length then 7 else if (n.way.any fun x0=>Jdu x0 n)=true then 4 else 0
theorem QJ {n:Z5} (h:K1 n=0):0≤n.now∧n.now≤1000000000∧n.way.length≤60∧∀ l∈n.way,n.now<l.due:=by
 unfold K1 at h
 split at h
 ·
  cases h
 split at h
 ·
  cases h
 split at h
 ·
  cases h
 ·
  rename_i h1 h2 h3
  refine ⟨by omega,by omega,by omega,fun l hl=>?_⟩
  have:¬ Jdu l n=true:=fun hc=>h3 (List.any_eq_true.2 ⟨l,hl,hc⟩)
  unfold Jdu at this
  simpa using this
def YB (k:Int):Bool:=decide (k<1) || decide (k > 100)
theorem Jjl {l:List Int} {i:Nat} {x:Int} (h:(l.any fun x0=>YB x0)=false) (hx:l[i]? = some x):1≤x∧x≤100:=by
 have:=List.any_eq_false.1 h x (List.mem_of_getElem? hx)
 unfold YB at this
 simp at this;omega
def Jer (l:JI) (d:Int):JI:=⟨l.to_,l.from_,l.since,d,l.heads,l.reply⟩
def Kh (n:Z5) (l:JI) (fates:List Int):Z5×Int :=
 if K1 n ≠ 0 then (Jbd,K1 n) else if (fates.any fun x0=>YB x0)=true then (Jbd,4) else if (fates.length:Int) > 60-(n.way.length:Int) then (Jbd,7) else (⟨n.now,n.way++fates.map fun k=>Jer l (n.now+k)⟩,0)
def JR (n:Z5):Z5×List JI×Int :=
 if K1 n ≠ 0 then (Jbd,[],K1 n) else if n.now=1000000000 then (Jbd,[],9) else (⟨n.now+1,n.way.filter fun l=>!decide (l.due=n.now+1)⟩,n.way.filter fun l=>decide (l.due=n.now+1),0)
theorem Jkt {α:Type} {l:List α} {i:Nat} {x:α} (h:l[i]? = some x):l.take i++[x]=l.take (i+1):=by rw [List.take_add_one,h];rfl
theorem JlP {α β:Type} {l:List α} {i:Nat} {x:α} (f:α→β) (h:l[i]? = some x):(l.take i).map f++[f x]=(l.take (i+1)).map f:=by rw [List.take_add_one,h];simp
theorem Jdi {α:Type} {l:List α} {i:Nat} {x:α} {p:α→Bool} (h:l[i]? = some x) (hp:p x=true):(l.take i).filter p++[x]=(l.take (i+1)).filter p:=by rw [List.take_add_one,h];simp [hp]
theorem Jdj {α:Type} {l:List α} {i:Nat} {x:α} {p:α→Bool} (h:l[i]? = some x) (hp:p x=false):(l.take i).filter p=(l.take (i+1)).filter p:=by rw [List.take_add_one,h];simp [hp]
theorem QZ {α:Type} (p:α→Bool) (l:List α) (i:Nat):((l.take i).filter p).length≤l.length:=Nat.le_trans (List.length_filter_le _ _) (List.length_take_le' i l)
theorem Jdk (G:Jt) (vs_l:List Value) (l:JI) (h_l:Kj.R G vs_l l) :QI Tryz.prog 113 #[.agg vs_l.toArray] G [] (fun u G' L'=>∃ (a1:Option Addr) (c2:Nat) (a3:Option Addr) (c4:Nat) (a5:Option Addr) (c6:Nat),u=.agg #[I l.to_,I l.from_,I l.since,I l.due,Sl a1 l.heads.length c2,I l.reply.head.epoch,U l.reply.head.root,U l.reply.head.prev,I l.reply.head.at_,Sr l.reply.proof.name,Sl a3 l.reply.proof.entries.length c4,Sl a5 l.reply.proof.sides.length c6]∧(rI l.to_)∧(rI l.from_)∧(rI l.since)∧(rI l.due)∧(RS KE G' a1 c2 l.heads)∧(rI l.reply.head.epoch)∧(rU l.reply.head.root)∧(rU l.reply.head.prev)∧(rI l.reply.head.at_)∧((l.reply.proof.name).length≤140737488351232)∧(RS Qr G' a3 c4 l.reply.proof.entries)∧(RS EU G' a5 c6 l.reply.proof.sides)∧L'=[]):=by
 obtain ⟨a1,c1,a2,c2,a3,c3,rfl,w1,w2,w3,w4,hs1,w5,w6,w7,w8,w9,hs2,hs3⟩:=h_l
 refine JK Tryz.func113 24 [(0,(K4 l a1 c1 a2 c2 a3 c3))] rfl (fun w0 G0=>?_)
 refine Je (Jb (Ju 1 #[I l.to_,I l.from_,I l.since,I l.due,Sl a1 l.heads.length c1,I l.reply.head.epoch,U l.reply.head.root,U l.reply.head.prev,I l.reply.head.at_,Sr l.reply.proof.name,Sl a2 l.reply.proof.entries.length c2,Sl a3 l.reply.proof.sides.length c3] 72 (fun b1=>Ju 2 #[I 0,I 0,I 0,I 0,Sl none 0 0,I 0,U 0,U 0,I 0,Sr ([]),Sl none 0 0,Sl none 0 0] 72 (fun b2=>Jc (Ja (Je (Jb (Jd [0,4] [(1,Pt b1 0),(2,Pt b2 0),(4,Sl a1 l.heads.length c1)] (JQ 5 (YU G a1 c1 l.heads hs1) (fun v G1 L1 hl1 hp=>?_))))))))))
 obtain ⟨a4,c4,r1,rfl,hr1,rfl⟩:=hp
 refine Kd [0,7] [(1,Pt b1 0),(2,Pt b2 0)] [r1,[Sg b2 0 [I 0,I 0,I 0,I 0,Sl none 0 0,I 0,U 0,U 0,I 0,Sr ([]),Sl none 0 0,Sl none 0 0]],[Sg b1 0 (J5 l a4 c4 a2 c2 a3 c3)]] (Jc (Ja (Je (Jb (Jd [0,0,0,6] [(1,Pt b1 0),(2,Pt b2 0),(10,Sl a2 l.reply.proof.entries.length c2)] (JQ 11 (Z7 G1 a2 c2 l.reply.proof.entries (hs2.mono hl1)) (fun v G2 L1 hl2 hp=>?_)))))))
 obtain ⟨a5,c5,r2,rfl,hr2,rfl⟩:=hp
 refine Kd [0,0,0,9] [(1,Pt b1 0),(2,Pt b2 0)] [r2,r1,[Sg b2 0 [I 0,I 0,I 0,I 0,Sl none 0 0,I 0,U 0,U 0,I 0,Sr ([]),Sl none 0 0,Sl none 0 0]],[Sg b1 0 (J5 l a4 c4 a5 c5 a3 c3)]] (Jc (Ja (Je (Jb (Jd [0,0,0,8] [(1,Pt b1 0),(2,Pt b2 0),(18,Sl a3 l.reply.proof.sides.length c3)] (JQ 19 (JjS G2 a3 c3 l.reply.proof.sides (hs3.mono (Jt.le_trans hl1 hl2))) (fun v G3 L1 hl3 hp=>?_)))))))
 obtain ⟨a6,c6,r3,rfl,hr3,rfl⟩:=hp
 refine Kd [0,0,0,11] [(1,Pt b1 0),(2,Pt b2 0)] [r3,r2,r1,[Sg b2 0 [I 0,I 0,I 0,I 0,Sl none 0 0,I 0,U 0,U 0,I 0,Sr ([]),Sl none 0 0,Sl none 0 0]],[Sg b1 0 (J5 l a4 c4 a5 c5 a6 c6)]] (Jc (Ja (WO [10,9] [(2,Pt b2 0)] [r3,r2,r1,[Sg b2 0 (J5 l a4 c4 a5 c5 a6 c6)],[Sg b1 0 (J5 l a4 c4 a5 c5 a6 c6)]] (Jk (Wn (E:=KE) 2 (hr1.mono (Jt.le_trans hl2 hl3)) (by exact (hs1).fit) (fun G4 hl4 hs4=>Wn (E:=Qr) 1 (hr2.mono (Jt.le_trans hl3 hl4)) (by exact (hs2.mono hl1).fit) (fun G5 hl5 hs5=>Wn (E:=EU) 0 (hr3.mono (Jt.le_trans hl4 hl5)) (by exact (hs3.mono (Jt.le_trans hl1 hl2)).fit) (fun G6 hl6 hs6=>?_))))))))
 have hf1:l=l:=by
  rfl
 refine Jl [3] [(K4 l a4 c4 a5 c5 a6 c6)] (JY [] (.cons _ (.cons _ (.cons _ (.cons _ (.cons _ .slnil))))) (Jt.le_trans (Jt.le_trans (Jt.le_trans (Jt.le_trans (Jt.le_trans hl1 hl2) hl3) hl4) hl5) hl6) ?_)
 rw [hf1]
 try dsimp only
 exact ⟨a4,c4,a5,c5,a6,c6,rfl,w1,w2,w3,w4,(hs4.mono (Jt.le_trans hl5 hl6)),w5,w6,w7,w8,w9,(hs5.mono hl6),hs6,rfl⟩
theorem JaN (G:Jt) (a_l:Option Addr) (c_l:Nat) (l:List JI) (h_l:RS Kj G a_l c_l l) (hf:l.length*152≤140737488351232):QI Tryz.prog 112 #[Sl a_l l.length c_l] G [] (fun u G' L'=>∃ (a1:Option Addr) (c2:Nat) (r3:List Ks),u=Sl a1 l.length c2∧(J9 Kj G' a1 c2 l r3)∧L'=[r3]):=by
 refine JK Tryz.func112 19 [(0,Sl a_l l.length c_l)] rfl (fun w0 G0=>?_)
 refine Jg [0] [(0,Sl a_l l.length c_l)] (Jg [0] [(0,Sl a_l l.length c_l),(3,Sl none 0 0)] (Je (Jg [0,0,0] [(3,Sl none 0 0),(6,Sl a_l l.length c_l),(7,I (l.length:Int)),(8,I 0)] (Jz (Yv ?_)))))
 have hlm_h_l:l.length≤9223372036854775807:=Nat.le_trans (h_l).le (h_l).max
 refine Qe (σ:=Nat×Option Addr×Nat×List Ks×List JI×Jt) (fun q_=>(Jt.le G q_.2.2.2.2.2)∧(q_.1≤l.length)∧(J9 Kj q_.2.2.2.2.2 q_.2.1 q_.2.2.1 q_.2.2.2.2.1 q_.2.2.2.1)∧(q_.2.2.2.2.1=l.take q_.1)) (fun q_=>[(3,Sl q_.2.1 q_.2.2.2.2.1.length q_.2.2.1),(6,Sl a_l l.length c_l),(7,I (l.length:Int)),(8,I (q_.1:Int))]) (fun q_=>q_.2.2.2.2.2) (fun q_=>[q_.2.2.2.1]) (fun q_=>l.length-q_.1) (0,none,0,[],[],G) ⟨(Jt.le_refl _),(by (try dsimp only);exact Nat.zero_le _),(J9.none Kj _),(by (try dsimp only);rfl)⟩ (fun q_ hs=>?_)
 obtain ⟨i,ao,co,ro,xo,g⟩:=q_
 obtain ⟨hle,hi,hro,hxo⟩:=hs
 dsimp only at hle hi hro hxo
 refine KP (fr':=[(3,Sl ao xo.length co),(6,Sl a_l l.length c_l),(7,I (l.length:Int)),(8,I (i:Int))]) (L':=[ro]) rfl rfl (Jg [0] [(3,Sl ao xo.length co),(6,Sl a_l l.length c_l),(7,I (l.length:Int)),(8,I (i:Int)),(9,Bo (decide ((i:Int)<(l.length:Int))))] (Je (Jo (decide ((i:Int)<(l.length:Int))) (fun h1=>?_) (fun h1=>?_))))
 try simp only [BB] at h1
 refine Jn (Ja (Je (Jz (Je (Jb ?_)))))
 obtain ⟨b1,o1,rfl⟩:=RS.addr (h_l.mono hle) (k:=i) (by omega)
 obtain ⟨x1,hx1⟩:=Wj (l:=l) (k:=i) (by omega)
 obtain ⟨_,⟨a1,c1,a2,c2,a3,c3,rfl,w1,w2,w3,w4,hs1,w5,w6,w7,w8,w9,hs2,hs3⟩,hc1⟩:=RS.get (h_l.mono hle) hx1
 refine Ki (b:=b1) (off:=o1) (len:=l.length) (cap:=c_l) (ik:=.i64) 10 72 12 i (by omega) (Ka 11 72 (cs:=(J5 x1 a1 c1 a2 c2 a3 c3)) 0 (K4 x1 a1 c1 a2 c2 a3 c3) hc1 (Ju 5 #[I 0,I 0,I 0,I 0,Sl none 0 0,I 0,U 0,U 0,I 0,Sr ([]),Sl none 0 0,Sl none 0 0] 72 (fun b2=>Kd [3] [(3,Sl ao xo.length co),(5,Pt b2 0),(6,Sl (At b1 o1) l.length c_l),(7,I (l.length:Int)),(8,I (i:Int))] [[Sg b2 0 (J5 x1 a1 c1 a2 c2 a3 c3)],ro] (Jc (Ja (Jb (Jd [0,2] [(3,Sl ao xo.length co),(6,Sl (At b1 o1) l.length c_l),(7,I (l.length:Int)),(8,I (i:Int)),(12,Sl ao xo.length co),(13,(K4 x1 a1 c1 a2 c2 a3 c3))] (JQ 14 (Jdk g (J5 x1 a1 c1 a2 c2 a3 c3) x1 (⟨a1,c1,a2,c2,a3,c3,rfl,w1,w2,w3,w4,hs1,w5,w6,w7,w8,w9,hs2,hs3⟩)) (fun v G1 L1 hl1 hp=>?_)))))))))
 obtain ⟨a4,c4,a5,c5,a6,c6,rfl,w10,w11,w12,w13,hs4,w14,w15,w16,w17,w18,hs5,hs6,rfl⟩:=hp
 refine KG 15 1 #[I x1.to_,I x1.from_,I x1.since,I x1.due,Sl a4 x1.heads.length c4,I x1.reply.head.epoch,U x1.reply.head.root,U x1.reply.head.prev,I x1.reply.head.at_,Sr x1.reply.proof.name,Sl a5 x1.reply.proof.entries.length c5,Sl a6 x1.reply.proof.sides.length c6] 72 (fun b3=>QM (b:=b3) (cs:=(J5 x1 a4 c4 a5 c5 a6 c6)) 16 72 2 0 (E:=Kj) x1 (hro.mono hl1) ⟨a4,c4,a5,c5,a6,c6,rfl,w10,w11,w12,w13,hs4,w14,w15,w16,w17,w18,hs5,hs6⟩ (by have q1_:=congrArg List.length hxo;(try simp only [Kj,List.length_append,List.length_cons,List.length_nil,List.length_take,List.length_map] at *);omega) (by have q1_:=congrArg List.length hxo;(try simp only [Kj,List.length_append,List.length_cons,List.length_nil,List.length_take,List.length_map] at *);omega) (fun a7 c7 r1 hr1=>Jd [0] [(3,Sl a7 ((xo++[x1]).length) c7),(6,Sl (At b1 o1) l.length c_l),(7,I (l.length:Int)),(8,I (i:Int))] (Jc (JN (Ja (Jb (Jd [0,0] [(3,Sl a7 ((xo++[x1]).length) c7),(6,Sl (At b1 o1) l.length c_l),(7,I (l.length:Int)),(8,I (IntKind.i64.wrap ((i:Int)+1)))] ?_)))))))
 have e1:IntKind.i64.wrap ((i:Int)+1)=(i:Int)+1:=IntWalk.i64_in _ (by omega)
 refine J4 (fr':=[(3,Sl a7 ((xo++[x1]).length) c7),(6,Sl (At b1 o1) l.length c_l),(7,I (l.length:Int)),(8,I ((i:Int)+1))]) (L':=[[Sg b3 0 [I x1.to_,I x1.from_,I x1.since,I x1.due,Sl a4 x1.heads.length c4,I x1.reply.head.epoch,U x1.reply.head.root,U x1.reply.head.prev,I x1.reply.head.at_,Sr x1.reply.proof.name,Sl a5 x1.reply.proof.entries.length c5,Sl a6 x1.reply.proof.sides.length c6]],[Sg b2 0 [I x1.to_,I x1.from_,I x1.since,I x1.due,Sl a1 x1.heads.length c1,I x1.reply.head.epoch,U x1.reply.head.root,U x1.reply.head.prev,I x1.reply.head.at_,Sr x1.reply.proof.name,Sl a2 x1.reply.proof.entries.length c2,Sl a3 x1.reply.proof.sides.length c3]],r1]) (by simp only [J5,K4,e1];first | done | rfl) (by rfl) ?_
 clear e1
 exact Jc (Q4 [r1] (.cons _ (.cons _ (.cons_cons _ .slnil))) (Qh (i+1,a7,c7,r1,xo++[x1],G1) ⟨(Jt.le_trans hle hl1),(by omega),hr1,(by rw [hxo];exact Jkt hx1)⟩ (by (try dsimp only);omega)))
 try simp only [BB] at h1
 refine K2 (J3 (Kf (JV (Ja (Jg [0,0] [(2,Sl ao xo.length co)] (Jk (Jj 0 ?_)))))))
 have hf1:l=xo:=by
  rw [hxo,List.take_of_length_le (by omega)]
 refine Jl [0] [Sl ao xo.length co] (JY [ro] (.cons_cons _ .slnil) hle ?_)
 rw [hf1]
 try dsimp only
 exact ⟨ao,co,ro,rfl,hro,rfl⟩
theorem JlQ (G:Jt) (vs_l:List Value) (l:JI) (h_l:Kj.R G vs_l l) (vs_n:List Value) (n:Z5) (h_n:ENet.R G vs_n n) (b_n:Nat) (hz_n:∀ j v,(vs_n:List Value)[j]? = some v→G b_n (0+j)=some v) :QI Tryz.prog 40 #[.agg vs_l.toArray,Pt b_n 0] G [] (fun u G' L'=>u=Bo (Jdu l n)):=by
 obtain ⟨a1,c1,a2,c2,a3,c3,rfl,_,_,_,_,_,_,_,_,_,_,_,_⟩:=h_l
 obtain ⟨a4,c4,rfl,_,_⟩:=h_n
 refine JK Tryz.func40 9 [(0,(K4 l a1 c1 a2 c2 a3 c3)),(1,Pt b_n 0)] rfl (fun w0 G0=>?_)
 refine Je (Jb (Ju 2 #[I l.to_,I l.from_,I l.since,I l.due,Sl a1 l.heads.length c1,I l.reply.head.epoch,U l.reply.head.root,U l.reply.head.prev,I l.reply.head.at_,Sr l.reply.proof.name,Sl a2 l.reply.proof.entries.length c2,Sl a3 l.reply.proof.sides.length c3] 72 (fun b1=>Jd [0] [(1,Pt b_n 0),(2,Pt b1 0)] (Jc (Ja (Je (Jb (Jd [0,2,0] [(5,I l.due),(6,Pt b_n 0)] (Ka (o':=0) 7 2 (cs:=[I n.now,Sl a4 n.way.length c4]) 0 (I n.now) hz_n (Jd [0,0] [(3,Bo (decide (l.due≤n.now)))] (Jc (Ja (Jk (Jl [0] [Bo (decide (l.due≤n.now))] (Jv (Jt.le_refl _) ?_)))))))))))))))
 have hf_:(Jdu l n)=(decide (l.due≤n.now)):=by
  rfl
 · (try rw [hf_]);(simp only [JM];done)
theorem Jck (G:Jt) (vs_n:List Value) (n:Z5) (h_n:ENet.R G vs_n n) :QI Tryz.prog 12 #[.agg vs_n.toArray] G [] (fun u G' L'=>u=I (K1 n)):=by
 obtain ⟨a1,c1,rfl,w1,hs1⟩:=h_n
 refine JK Tryz.func12 22 [(0,.agg #[I n.now,Sl a1 n.way.length c1])] rfl (fun w0 G0=>?_)
 refine Je (Jb (Ju 1 #[I n.now,Sl a1 n.way.length c1] 39 (fun b1=>Jd [0] [(1,Pt b1 0)] (Jc (Ja (Je (Jz (Je (Jb (Jd [0,2,0,0] [(1,Pt b1 0),(7,Bo (decide (n.now<0)))] (KD (decide (n.now<0)) (fun bb=>[(1,Pt b1 0),(7,Bo bb)]) [1,1,1,0] [0,2,0,0] (fun bb=>[(1,Pt b1 0),(11,Bo (bb || (decide (n.now > 1000000000))))]) (Jd [0] [(1,Pt b1 0),(3,Bo ((decide (n.now<0)) || (decide (n.now > 1000000000))))] (Jc (Ja (Jo ((decide (n.now<0)) || (decide (n.now > 1000000000))) (fun h1=>?_) (fun h1=>?_))))))))))))))))
 try simp only [BB] at h1
 refine Jg [0] [(2,I 4)] (Jk (Js (Jh (Jl [0] [I 4] (Jv (Jt.le_refl _) ?_)))))
 have hf_:(K1 n)=4:=by
  unfold K1;(rw [if_pos (by omega)];done)
 · (try rw [hf_]);(simp only [JM];done)
 try simp only [BB] at h1
 refine Jg [0,2,0,0,0] [(1,Pt b1 0),(12,Bo (decide ((n.way.length:Int) > 60)))] (Jo (decide ((n.way.length:Int) > 60)) (fun h2=>?_) (fun h2=>?_))
 try simp only [BB] at h2
 refine Jg [0] [(2,I 7)] (Jk (Js (Jh (Jl [0] [I 7] (Jv (Jt.le_refl _) ?_)))))
 have hf_:(K1 n)=7:=by
  unfold K1;(rw [if_neg (by omega),if_pos (by omega)];done)
 · (try rw [hf_]);(simp only [JM];done)
 try simp only [BB] at h2
 refine Je (Jb (Jd [0,2,0] [(19,Sl a1 n.way.length c1),(20,.func (.func 40) #[] #[Pt b1 0])] (QS (b:=b1) (o:=0) (cs:=[I n.now,Sl a1 n.way.length c1]) 0 (fun G1 hl1 hz1=>Ji 21 (Bo (n.way.any (fun x0=>Jdu x0 n))) (JfY G1 a1 c1 n.way (hs1.mono hl1) 40 #[Pt b1 0] (fun x0=>Jdu x0 n) (fun _ _=>by kernel_rfl) (fun vs0 x0 hx0=>by obtain ⟨a2,c2,a3,c3,a4,c4,rfl,w2,w3,w4,w5,hs2,w6,w7,w8,w9,w10,hs3,hs4⟩:=hx0;exact JlQ G1 (J5 x0 a2 c2 a3 c3 a4 c4) x0 (⟨a2,c2,a3,c3,a4,c4,rfl,w2,w3,w4,w5,hs2,w6,w7,w8,w9,w10,hs3,hs4⟩) [I n.now,Sl a1 n.way.length c1] n (⟨a1,c1,rfl,w1,(hs1.mono hl1)⟩) b1 hz1)) (Jd [0] [(17,Bo (n.way.any (fun x0=>Jdu x0 n)))] (Jc (Ja (Jo (n.way.any (fun x0=>Jdu x0 n)) (fun h3=>?_) (fun h3=>?_)))))))))
 try simp only [BB] at h3
 refine Jg [0] [(2,I 4)] (Jk (Js (Jh (Jl [0] [I 4] (Jv hl1 ?_)))))
 have hf_:(K1 n)=4:=by
  unfold K1;(rw [if_neg (by omega),if_neg (by omega)];simp_all;done)
 · (try rw [hf_]);(simp only [JM];done)
 try simp only [BB] at h3
 refine Jn (JN (Ja (Jg [0] [(2,I 0)] (Jk (Jl [0] [I 0] (Jv hl1 ?_))))))
 have hf_:(K1 n)=0:=by
  unfold K1;(rw [if_neg (by omega),if_neg (by omega)];simp_all;done)
 · (try rw [hf_]);(simp only [JM];done)
theorem Jhz (G:Jt) (k:Int) :QI Tryz.prog 111 #[I k] G [] (fun u G' L'=>u=Bo (YB k)):=by
 refine JK Tryz.func111 9 [(0,I k)] rfl (fun w0 G0=>?_)
 refine Jg [0] [(0,I k)] (Je (Jb (Jd [0,0,0] [(0,I k),(5,Bo (decide (k<1)))] (KD (decide (k<1)) (fun bb=>[(0,I k),(5,Bo bb)]) [1,1,0] [0,0,0] (fun bb=>[(8,Bo (bb || (decide (k > 100))))]) (Jd [0] [(2,Bo ((decide (k<1)) || (decide (k > 100))))] (Jc (Ja (Jk (Jl [0] [Bo ((decide (k<1)) || (decide (k > 100)))] (Jv (Jt.le_refl _) ?_))))))))))
 have hf_:(YB k)=((decide (k<1)) || (decide (k > 100))):=by
  rfl
 · (try rw [hf_]);(simp only [JM];done)
set_option maxRecDepth 20000 in
theorem Yg (G:Jt) (vs_n:List Value) (n:Z5) (h_n:ENet.R G vs_n n) (vs_l:List Value) (l:JI) (h_l:Kj.R G vs_l l) (a_fates:Option Addr) (c_fates:Nat) (fates:List Int) (h_fates:RS EI G a_fates c_fates fates) :QI Tryz.prog 74 #[.agg vs_n.toArray,.agg vs_l.toArray,Sl a_fates fates.length c_fates] G [] (fun u G' L'=>∃ (a1:Option Addr) (c2:Nat),u=.tuple #[.agg #[I (((Kh n l fates).1).now),Sl a1 ((((Kh n l fates).1).way).length) c2],I ((Kh n l fates).2)]∧(rI (((Kh n l fates).1).now))∧(RS Kj G' a1 c2 (((Kh n l fates).1).way))∧L'=[]):=by
 obtain ⟨a1,c1,rfl,w1,hs1⟩:=h_n
 obtain ⟨a2,c2,a3,c3,a4,c4,rfl,_,_,_,_,hs2,_,_,_,_,_,hs3,hs4⟩:=h_l
 refine JK Tryz.func74 60 [(0,.agg #[I n.now,Sl a1 n.way.length c1]),(1,(K4 l a2 c2 a3 c3 a4 c4)),(2,Sl a_fates fates.length c_fates)] rfl (fun w0 G0=>?_)
 refine Je (Jb (Ju 3 #[I n.now,Sl a1 n.way.length c1] 39 (fun b1=>Ju 4 #[I l.to_,I l.from_,I l.since,I l.due,Sl a2 l.heads.length c2,I l.reply.head.epoch,U l.reply.head.root,U l.reply.head.prev,I l.reply.head.at_,Sr l.reply.proof.name,Sl a3 l.reply.proof.entries.length c3,Sl a4 l.reply.proof.sides.length c4] 72 (fun b2=>Ju 6 #[I 0,Sl none 0 0] 39 (fun b3=>Jd [0] [(2,Sl a_fates fates.length c_fates),(3,Pt b1 0),(4,Pt b2 0),(6,Pt b3 0)] (Jc (Ja (Je (Jb (Jd [6] [(2,Sl a_fates fates.length c_fates),(3,Pt b1 0),(4,Pt b2 0),(6,Pt b3 0),(13,.agg #[I n.now,Sl a1 n.way.length c1])] (Ji 14 (I (K1 n)) (Jck G [I n.now,Sl a1 n.way.length c1] n (⟨a1,c1,rfl,w1,hs1⟩)) (Jd [0] [(2,Sl a_fates fates.length c_fates),(3,Pt b1 0),(4,Pt b2 0),(6,Pt b3 0),(8,I (K1 n))] (Jc (Ja (Je (Jz (Jg [0,0,0] [(2,Sl a_fates fates.length c_fates),(3,Pt b1 0),(4,Pt b2 0),(6,Pt b3 0),(8,I (K1 n)),(15,Bo (!decide (K1 n=0)))] (Jo (!decide (K1 n=0)) (fun h1=>?_) (fun h1=>?_)))))))))))))))))))
 try simp only [BB] at h1
 refine Jg [0,0,3,0] [(6,Pt b3 0),(7,I (K1 n))] (Jk (Js (Jh ?_)))
 have hf1:Kh n l fates=((⟨0,[]⟩:Z5),K1 n):=by
  unfold Kh Jbd;(simp_all;done)
 refine Jl [0,0] [.agg #[I 0,Sl none 0 0],I (K1 n)] (JY [] (.cons _ (.cons _ (.cons _ .slnil))) (Jt.le_refl _) ?_)
 rw [hf1]
 try dsimp only
 exact ⟨none,0,rfl,(by omega),(RS.nil' Kj G),rfl⟩
 try simp only [BB] at h1
 refine Je (Jb (Jd [0] [(2,Sl a_fates fates.length c_fates),(3,Pt b1 0),(4,Pt b2 0),(6,Pt b3 0),(21,Sl a_fates fates.length c_fates)] (Ji 22 (Bo (fates.any (fun x0=>YB x0))) (Jmz G a_fates c_fates fates h_fates 111 #[] (fun x0=>YB x0) (fun _ _=>by kernel_rfl) (fun x0 hx0=>Jhz G x0)) (Jd [0] [(2,Sl a_fates fates.length c_fates),(3,Pt b1 0),(4,Pt b2 0),(6,Pt b3 0),(20,Bo (fates.any (fun x0=>YB x0)))] (Jc (Ja (Jo (fates.any (fun x0=>YB x0)) (fun h2=>?_) (fun h2=>?_))))))))
 try simp only [BB] at h2
 refine Jg [0,3,0] [(6,Pt b3 0),(7,I 4)] (Jk (Js (Jh ?_)))
 have hf2:Kh n l fates=((⟨0,[]⟩:Z5),4):=by
  unfold Kh Jbd;(simp_all;done)
 refine Jl [0,0] [.agg #[I 0,Sl none 0 0],I 4] (JY [] (.cons _ (.cons _ (.cons _ .slnil))) (Jt.le_refl _) ?_)
 rw [hf2]
 try dsimp only
 exact ⟨none,0,rfl,(by omega),(RS.nil' Kj G),rfl⟩
 try simp only [BB] at h2
 refine Jg [0,0,0,6,0,0,0,0] [(2,Sl a_fates fates.length c_fates),(3,Pt b1 0),(4,Pt b2 0),(6,Pt b3 0),(24,Bo (decide ((fates.length:Int) > IntKind.i64.wrap (60-(n.way.length:Int)))))] ?_
 have e1:IntKind.i64.wrap (60-(n.way.length:Int))=60-(n.way.length:Int):=IntWalk.i64_in _ (by (have q_:=QJ ‹_›;omega))
 refine KP (fr':=[(2,Sl a_fates fates.length c_fates),(3,Pt b1 0),(4,Pt b2 0),(6,Pt b3 0),(24,Bo (decide ((fates.length:Int) > 60-(n.way.length:Int))))]) (L':=[[Sg b3 0 [I 0,Sl none 0 0]],[Sg b2 0 [I l.to_,I l.from_,I l.since,I l.due,Sl a2 l.heads.length c2,I l.reply.head.epoch,U l.reply.head.root,U l.reply.head.prev,I l.reply.head.at_,Sr l.reply.proof.name,Sl a3 l.reply.proof.entries.length c3,Sl a4 l.reply.proof.sides.length c4]],[Sg b1 0 [I n.now,Sl a1 n.way.length c1]]]) (by simp only [J5,K4,e1];first | done | rfl) (by rfl) ?_
 clear e1
 refine Jo (decide ((fates.length:Int) > 60-(n.way.length:Int))) (fun h3=>?_) (fun h3=>?_)
 try simp only [BB] at h3
 refine Jg [0,3,0] [(6,Pt b3 0),(7,I 7)] (Jk (Js (Jh ?_)))
 have hf3:Kh n l fates=((⟨0,[]⟩:Z5),7):=by
  unfold Kh Jbd;(simp_all;done)
 refine Jl [0,0] [.agg #[I 0,Sl none 0 0],I 7] (JY [] (.cons _ (.cons _ (.cons _ .slnil))) (Jt.le_refl _) ?_)
 rw [hf3]
 try dsimp only
 exact ⟨none,0,rfl,(by omega),(RS.nil' Kj G),rfl⟩
 try simp only [BB] at h3
 refine Jn (JN (Ja ?_))
 refine VX (σ:=Nat×(Option Addr)×Nat×(List Ks)×Jt) (fun q_=>(Jt.le G q_.2.2.2.2)∧(J9 Kj q_.2.2.2.2 q_.2.1 q_.2.2.1 n.way q_.2.2.2.1)) (fun q_=>[(2,Sl a_fates fates.length c_fates),(3,Pt b1 0),(4,Pt b2 0),(6,Pt b3 0),(9,Pt q_.1 0)]) (fun q_=>q_.2.2.2.2) (fun q_=>[[Sg q_.1 0 [I n.now,Sl q_.2.1 n.way.length q_.2.2.1]],q_.2.2.2.1,[Sg b3 0 [I 0,Sl none 0 0]],[Sg b2 0 (J5 l a2 c2 a3 c3 a4 c4)],[Sg b1 0 [I n.now,Sl a1 n.way.length c1]]]) ?_ (fun q_ hs=>?_)
 refine KA [4,6,7] (Ws [(0,Pt b1 0),(1,I n.now),(2,Pt b1 1),(3,Sl a1 n.way.length c1)] (J2 [] [(0,0),(1,6),(2,0),(3,6)] [] [4,6] (List.forall_mem_nil _) (List.forall_mem_cons.2 ⟨?_,(List.forall_mem_cons.2 ⟨?_,List.forall_mem_nil _⟩)⟩)))
 refine JT 4 [(36,Sl a1 n.way.length c1)] (fun X=>?_)
 refine JQ 37 (JaN G a1 c1 n.way hs1 (by (have q_:=QJ ‹_›;omega))) (fun v G1 L1 hl1 hp=>?_)
 obtain ⟨a5,c5,r1,rfl,hr1,rfl⟩:=hp
 refine JX [(4,Sl a5 n.way.length c5),(5,.agg #[I n.now,Sl a5 n.way.length c5])] (J2 [2,3] [(0,0),(1,8),(5,0)] [] [6] (List.forall_mem_nil _) (List.forall_mem_cons.2 ⟨?_,List.forall_mem_nil _⟩))
 refine JT 6 [] (fun X=>?_)
 refine Ju 9 #[I 0,Sl none 0 0] 39 (fun b4=>JX [(6,Pt b4 0)] (J2 [2,3] [(0,0),(1,10),(5,0)] [] [7] (List.forall_mem_nil _) (List.forall_mem_cons.2 ⟨?_,List.forall_mem_nil _⟩)))
 refine JT 7 [(9,Pt b4 0),(38,.agg #[I n.now,Sl a5 n.way.length c5])] (fun X=>?_)
 exact K3 0 [[Sg b4 0 [I n.now,Sl a5 n.way.length c5]],r1,[Sg b3 0 [I 0,Sl none 0 0]],[Sg b2 0 (J5 l a2 c2 a3 c3 a4 c4)],[Sg b1 0 [I n.now,Sl a1 n.way.length c1]]] (Kq [] (Kz [0,1,2,3,5] [] [] [(2,Sl a_fates fates.length c_fates),(3,Pt b1 0),(4,Pt b2 0),(6,Pt b3 0),(9,Pt b4 0)] (List.forall_mem_nil _) (WT (b4,a5,c5,r1,G1) ⟨hl1,hr1⟩)))
 refine JT 6 [] (fun X=>?_)
 refine Ju 9 #[I 0,Sl none 0 0] 39 (fun b5=>JX [(6,Pt b5 0)] (J2 [] [(0,0),(1,8),(2,0),(3,8)] [] [4] (List.forall_mem_nil _) (List.forall_mem_cons.2 ⟨?_,List.forall_mem_nil _⟩)))
 refine JT 4 [(36,Sl a1 n.way.length c1)] (fun X=>?_)
 refine JQ 37 (JaN G a1 c1 n.way hs1 (by (have q_:=QJ ‹_›;omega))) (fun v G2 L1 hl2 hp=>?_)
 obtain ⟨a6,c6,r2,rfl,hr2,rfl⟩:=hp
 refine JX [(4,Sl a6 n.way.length c6),(5,.agg #[I n.now,Sl a6 n.way.length c6])] (J2 [2,3] [(0,0),(1,10),(5,0)] [] [7] (List.forall_mem_nil _) (List.forall_mem_cons.2 ⟨?_,List.forall_mem_nil _⟩))
 refine JT 7 [(9,Pt b5 0),(38,.agg #[I n.now,Sl a6 n.way.length c6])] (fun X=>?_)
 exact K3 1 [r2,[Sg b5 0 [I n.now,Sl a6 n.way.length c6]],[Sg b3 0 [I 0,Sl none 0 0]],[Sg b2 0 (J5 l a2 c2 a3 c3 a4 c4)],[Sg b1 0 [I n.now,Sl a1 n.way.length c1]]] (Kq [] (Kz [0,1,2,3,5] [] [] [(2,Sl a_fates fates.length c_fates),(3,Pt b1 0),(4,Pt b2 0),(6,Pt b3 0),(9,Pt b5 0)] (List.forall_mem_nil _) (Jj 4 (Jj 4 (Jj 4 (Jj 3 (Jj 4 (WT (b5,a6,c6,r2,G2) ⟨hl2,hr2⟩))))))))
 obtain ⟨b4,a5,c5,r1,G1⟩:=q_
 obtain ⟨hle1,hj1⟩:=hs
 dsimp only at hle1 hj1
 refine KP (fr':=[(2,Sl a_fates fates.length c_fates),(3,Pt b1 0),(4,Pt b2 0),(6,Pt b3 0),(9,Pt b4 0)]) (L':=[[Sg b4 0 [I n.now,Sl a5 n.way.length c5]],r1,[Sg b3 0 [I 0,Sl none 0 0]],[Sg b2 0 (J5 l a2 c2 a3 c3 a4 c4)],[Sg b1 0 [I n.now,Sl a1 n.way.length c1]]]) rfl rfl (Je (Jg [0,0,0] [(3,Pt b1 0),(4,Pt b2 0),(6,Pt b3 0),(9,Pt b4 0),(39,Sl a_fates fates.length c_fates),(40,I (fates.length:Int)),(41,I 0)] (Jz ?_)))
 have hlm_h_fates:fates.length≤9223372036854775807:=Nat.le_trans (h_fates).le (h_fates).max
 refine Qe (σ:=Nat×Option Addr×Nat×List Ks×List JI×Jt) (fun q_=>(Jt.le G1 q_.2.2.2.2.2)∧(q_.1≤fates.length)∧(J9 Kj q_.2.2.2.2.2 q_.2.1 q_.2.2.1 q_.2.2.2.2.1 q_.2.2.2.1)∧(q_.2.2.2.2.1=n.way++(fates.take q_.1).map fun k=>Jer l (n.now+k))) (fun q_=>[(3,Pt b1 0),(4,Pt b2 0),(6,Pt b3 0),(9,Pt b4 0),(39,Sl a_fates fates.length c_fates),(40,I (fates.length:Int)),(41,I (q_.1:Int))]) (fun q_=>q_.2.2.2.2.2) (fun q_=>[[Sg b4 0 [I n.now,Sl q_.2.1 q_.2.2.2.2.1.length q_.2.2.1]],q_.2.2.2.1,[Sg b3 0 [I 0,Sl none 0 0]],[Sg b2 0 (J5 l a2 c2 a3 c3 a4 c4)],[Sg b1 0 [I n.now,Sl a1 n.way.length c1]]]) (fun q_=>fates.length-q_.1) (0,a5,c5,r1,n.way,G1) ⟨(Jt.le_refl _),(by (try dsimp only);exact Nat.zero_le _),hj1,(by (try dsimp only);simp)⟩ (fun q_ hs=>?_)
 obtain ⟨i,aw,cw,rw,xw,g⟩:=q_
 obtain ⟨hle,hi,hrw,hxw⟩:=hs
 dsimp only at hle hi hrw hxw
 refine KP (fr':=[(3,Pt b1 0),(4,Pt b2 0),(6,Pt b3 0),(9,Pt b4 0),(39,Sl a_fates fates.length c_fates),(40,I (fates.length:Int)),(41,I (i:Int))]) (L':=[[Sg b4 0 [I n.now,Sl aw xw.length cw]],rw,[Sg b3 0 [I 0,Sl none 0 0]],[Sg b2 0 (J5 l a2 c2 a3 c3 a4 c4)],[Sg b1 0 [I n.now,Sl a1 n.way.length c1]]]) rfl rfl (Jg [0] [(3,Pt b1 0),(4,Pt b2 0),(6,Pt b3 0),(9,Pt b4 0),(39,Sl a_fates fates.length c_fates),(40,I (fates.length:Int)),(41,I (i:Int)),(42,Bo (decide ((i:Int)<(fates.length:Int))))] (Je (Jo (decide ((i:Int)<(fates.length:Int))) (fun h4=>?_) (fun h4=>?_))))
 try simp only [BB] at h4
 refine Jn (Ja (Je (Jz (Je (Jb ?_)))))
 obtain ⟨b6,o1,rfl⟩:=RS.addr (h_fates.mono (Jt.le_trans hle1 hle)) (k:=i) (by omega)
 obtain ⟨x1,hx1⟩:=Wj (l:=fates) (k:=i) (by omega)
 obtain ⟨_,⟨rfl,_⟩,hc1⟩:=RS.get (h_fates.mono (Jt.le_trans hle1 hle)) hx1
 refine Ki (b:=b6) (off:=o1) (len:=fates.length) (cap:=c_fates) (ik:=.i64) 43 3 1 i (by omega) (Ka 44 3 (cs:=[I x1]) 0 (I x1) hc1 (Jd [0] [(3,Pt b1 0),(4,Pt b2 0),(6,Pt b3 0),(9,Pt b4 0),(11,I x1),(39,Sl (At b6 o1) fates.length c_fates),(40,I (fates.length:Int)),(41,I (i:Int))] (Jc (Ja (Je (Jb (Jd [8] [(3,Pt b1 0),(4,Pt b2 0),(6,Pt b3 0),(9,Pt b4 0),(11,I x1),(39,Sl (At b6 o1) fates.length c_fates),(40,I (fates.length:Int)),(41,I (i:Int)),(45,(K4 l a2 c2 a3 c3 a4 c4))] (JQ 46 (Jdk g (J5 l a2 c2 a3 c3 a4 c4) l (⟨a2,c2,a3,c3,a4,c4,rfl,‹_›,‹_›,‹_›,‹_›,(hs2.mono (Jt.le_trans hle1 hle)),‹_›,‹_›,‹_›,‹_›,‹_›,(hs3.mono (Jt.le_trans hle1 hle)),(hs4.mono (Jt.le_trans hle1 hle))⟩)) (fun v G3 L1 hl3 hp=>?_)))))))))
 obtain ⟨a7,c7,a8,c8,a9,c9,rfl,_,_,_,_,hs5,_,_,_,_,_,hs6,hs7,rfl⟩:=hp
 refine Ju 12 #[I 0,I 0,I 0,I 0,Sl none 0 0,I 0,U 0,U 0,I 0,Sr ([]),Sl none 0 0,Sl none 0 0] 72 (fun b7=>Kd [3] [(3,Pt b1 0),(4,Pt b2 0),(6,Pt b3 0),(9,Pt b4 0),(11,I x1),(12,Pt b7 0),(39,Sl (At b6 o1) fates.length c_fates),(40,I (fates.length:Int)),(41,I (i:Int))] [[Sg b7 0 (J5 l a7 c7 a8 c8 a9 c9)],[Sg b4 0 [I n.now,Sl aw xw.length cw]],rw,[Sg b3 0 [I 0,Sl none 0 0]],[Sg b2 0 (J5 l a2 c2 a3 c3 a4 c4)],[Sg b1 0 [I n.now,Sl a1 n.way.length c1]]] (Jc (Ja (WO [0,12,0,0,0,3] [(3,Pt b1 0),(4,Pt b2 0),(6,Pt b3 0),(9,Pt b4 0),(12,Pt b7 0),(39,Sl (At b6 o1) fates.length c_fates),(40,I (fates.length:Int)),(41,I (i:Int))] [[Sg b7 0 (J5 (⟨l.to_,l.from_,l.since,(IntKind.i64.wrap (n.now+x1)),l.heads,l.reply⟩:JI) a7 c7 a8 c8 a9 c9)],[Sg b4 0 [I n.now,Sl aw xw.length cw]],rw,[Sg b3 0 [I 0,Sl none 0 0]],[Sg b2 0 (J5 l a2 c2 a3 c3 a4 c4)],[Sg b1 0 [I n.now,Sl a1 n.way.length c1]]] ?_))))
 have e2:IntKind.i64.wrap (n.now+x1)=n.now+x1:=IntWalk.i64_in _ (by (have q_:=QJ ‹_›;have q1_:=Jjl ‹_› ‹_›;omega))
 refine KP (fr':=[(3,Pt b1 0),(4,Pt b2 0),(6,Pt b3 0),(9,Pt b4 0),(12,Pt b7 0),(39,Sl (At b6 o1) fates.length c_fates),(40,I (fates.length:Int)),(41,I (i:Int))]) (L':=[[Sg b7 0 [I l.to_,I l.from_,I l.since,I (n.now+x1),Sl a7 l.heads.length c7,I l.reply.head.epoch,U l.reply.head.root,U l.reply.head.prev,I l.reply.head.at_,Sr l.reply.proof.name,Sl a8 l.reply.proof.entries.length c8,Sl a9 l.reply.proof.sides.length c9]],[Sg b4 0 [I n.now,Sl aw xw.length cw]],rw,[Sg b3 0 [I 0,Sl none 0 0]],[Sg b2 0 [I l.to_,I l.from_,I l.since,I l.due,Sl a2 l.heads.length c2,I l.reply.head.epoch,U l.reply.head.root,U l.reply.head.prev,I l.reply.head.at_,Sr l.reply.proof.name,Sl a3 l.reply.proof.entries.length c3,Sl a4 l.reply.proof.sides.length c4]],[Sg b1 0 [I n.now,Sl a1 n.way.length c1]]]) (by rfl) (by simp only [J5,K4,e2];first | done | rfl) ?_
 clear e2
 refine Jb (Jd [0,4,2] [(3,Pt b1 0),(4,Pt b2 0),(6,Pt b3 0),(9,Pt b4 0),(39,Sl (At b6 o1) fates.length c_fates),(40,I (fates.length:Int)),(41,I (i:Int)),(53,Sl aw xw.length cw),(54,(K4 (⟨l.to_,l.from_,l.since,(n.now+x1),l.heads,l.reply⟩:JI) a7 c7 a8 c8 a9 c9))] (KG 55 1 #[I l.to_,I l.from_,I l.since,I (n.now+x1),Sl a7 l.heads.length c7,I l.reply.head.epoch,U l.reply.head.root,U l.reply.head.prev,I l.reply.head.at_,Sr l.reply.proof.name,Sl a8 l.reply.proof.entries.length c8,Sl a9 l.reply.proof.sides.length c9] 72 (fun b8=>QM (b:=b8) (cs:=(J5 (⟨l.to_,l.from_,l.since,(n.now+x1),l.heads,l.reply⟩:JI) a7 c7 a8 c8 a9 c9)) 56 72 3 0 (E:=Kj) (⟨l.to_,l.from_,l.since,n.now+x1,l.heads,l.reply⟩:JI) (hrw.mono hl3) ⟨a7,c7,a8,c8,a9,c9,rfl,‹_›,‹_›,‹_›,(by (dsimp only;(have q_:=QJ ‹_›;have q1_:=Jjl ‹_› ‹_›;omega))),hs5,‹_›,‹_›,‹_›,‹_›,‹_›,hs6,hs7⟩ (by have q_:=QJ ‹_›;have q1_:=congrArg List.length hxw;(try simp only [Kj,List.length_append,List.length_cons,List.length_nil,List.length_take,List.length_map] at *);omega) (by have q_:=QJ ‹_›;have q1_:=congrArg List.length hxw;(try simp only [Kj,List.length_append,List.length_cons,List.length_nil,List.length_take,List.length_map] at *);omega) (fun a10 c10 r3 hr3=>Kd [0,7] [(3,Pt b1 0),(4,Pt b2 0),(6,Pt b3 0),(9,Pt b4 0),(39,Sl (At b6 o1) fates.length c_fates),(40,I (fates.length:Int)),(41,I (i:Int))] [[Sg b8 0 (J5 (⟨l.to_,l.from_,l.since,(n.now+x1),l.heads,l.reply⟩:JI) a7 c7 a8 c8 a9 c9)],[Sg b7 0 (J5 (⟨l.to_,l.from_,l.since,(n.now+x1),l.heads,l.reply⟩:JI) a7 c7 a8 c8 a9 c9)],[Sg b4 0 [I n.now,Sl a10 ((xw++[(⟨l.to_,l.from_,l.since,n.now+x1,l.heads,l.reply⟩:JI)]).length) c10]],r3,[Sg b3 0 [I 0,Sl none 0 0]],[Sg b2 0 (J5 l a2 c2 a3 c3 a4 c4)],[Sg b1 0 [I n.now,Sl a1 n.way.length c1]]] (Jc (JN (Ja (Jb (Jd [0,0] [(3,Pt b1 0),(4,Pt b2 0),(6,Pt b3 0),(9,Pt b4 0),(39,Sl (At b6 o1) fates.length c_fates),(40,I (fates.length:Int)),(41,I (IntKind.i64.wrap ((i:Int)+1)))] ?_)))))))))
 have e3:IntKind.i64.wrap ((i:Int)+1)=(i:Int)+1:=IntWalk.i64_in _ (by omega)
 refine J4 (fr':=[(3,Pt b1 0),(4,Pt b2 0),(6,Pt b3 0),(9,Pt b4 0),(39,Sl (At b6 o1) fates.length c_fates),(40,I (fates.length:Int)),(41,I ((i:Int)+1))]) (L':=[[Sg b8 0 [I l.to_,I l.from_,I l.since,I (n.now+x1),Sl a7 l.heads.length c7,I l.reply.head.epoch,U l.reply.head.root,U l.reply.head.prev,I l.reply.head.at_,Sr l.reply.proof.name,Sl a8 l.reply.proof.entries.length c8,Sl a9 l.reply.proof.sides.length c9]],[Sg b7 0 [I l.to_,I l.from_,I l.since,I (n.now+x1),Sl a7 l.heads.length c7,I l.reply.head.epoch,U l.reply.head.root,U l.reply.head.prev,I l.reply.head.at_,Sr l.reply.proof.name,Sl a8 l.reply.proof.entries.length c8,Sl a9 l.reply.proof.sides.length c9]],[Sg b4 0 [I n.now,Sl a10 ((xw++[(⟨l.to_,l.from_,l.since,n.now+x1,l.heads,l.reply⟩:JI)]).length) c10]],r3,[Sg b3 0 [I 0,Sl none 0 0]],[Sg b2 0 [I l.to_,I l.from_,I l.since,I l.due,Sl a2 l.heads.length c2,I l.reply.head.epoch,U l.reply.head.root,U l.reply.head.prev,I l.reply.head.at_,Sr l.reply.proof.name,Sl a3 l.reply.proof.entries.length c3,Sl a4 l.reply.proof.sides.length c4]],[Sg b1 0 [I n.now,Sl a1 n.way.length c1]]]) (by simp only [J5,K4,e3];first | done | rfl) (by rfl) ?_
 clear e3
 exact Jc (Q4 [[Sg b4 0 [I n.now,Sl a10 ((xw++[(⟨l.to_,l.from_,l.since,n.now+x1,l.heads,l.reply⟩:JI)]).length) c10]],r3,[Sg b3 0 [I 0,Sl none 0 0]],[Sg b2 0 (J5 l a2 c2 a3 c3 a4 c4)],[Sg b1 0 [I n.now,Sl a1 n.way.length c1]]] (.cons _ (.cons _ (.cons_cons _ (.cons_cons _ (.cons_cons _ (.cons_cons _ (.cons_cons _ .slnil))))))) (Qh (i+1,a10,c10,r3,xw++[(⟨l.to_,l.from_,l.since,n.now+x1,l.heads,l.reply⟩:JI)],G3) ⟨(Jt.le_trans hle hl3),(by omega),hr3,(by rw [hxw,List.append_assoc];exact congrArg _ (JlP (fun k=>Jer l (n.now+k)) hx1))⟩ (by (try dsimp only);omega)))
 try simp only [BB] at h4
 refine K2 (J3 (Kf (JV (Ja (WO [2,7,0] [(6,Pt b3 0),(7,I 0)] [[Sg b4 0 [I n.now,Sl aw xw.length cw]],rw,[Sg b3 0 [I n.now,Sl aw xw.length cw]],[Sg b2 0 (J5 l a2 c2 a3 c3 a4 c4)],[Sg b1 0 [I n.now,Sl a1 n.way.length c1]]] (Jk (Wn (E:=Kj) 1 hrw (by have q_:=QJ ‹_›;have q1_:=congrArg List.length hxw;(try simp only [Kj,List.length_append,List.length_cons,List.length_nil,List.length_take,List.length_map] at *);omega) (fun G4 hl4 hs8=>?_))))))))
 have hf4:Kh n l fates=((⟨n.now,xw⟩:Z5),0):=by
  unfold Kh Jbd;(rw [if_neg (by omega),if_neg (by simp_all),if_neg (by omega),hxw,List.take_of_length_le (by omega)])
 refine Jl [2,0] [.agg #[I n.now,Sl aw xw.length cw],I 0] (JY [] (.cons _ (.cons _ (.cons _ (.cons _ (.cons _ .slnil))))) (Jt.le_trans (Jt.le_trans hle1 hle) hl4) ?_)
 rw [hf4]
 try dsimp only
 exact ⟨aw,cw,rfl,‹_›,hs8,rfl⟩
theorem JhA (G:Jt) (vs_n:List Value) (n:Z5) (h_n:ENet.R G vs_n n) :QI Tryz.prog 114 #[.agg vs_n.toArray] G [] (fun u G' L'=>∃ (a1:Option Addr) (c2:Nat) (a3:Option Addr) (c4:Nat),u=.tuple #[.agg #[I (((JR n).1).now),Sl a1 ((((JR n).1).way).length) c2],Sl a3 (((JR n).2.1).length) c4,I ((JR n).2.2)]∧(rI (((JR n).1).now))∧(RS Kj G' a1 c2 (((JR n).1).way))∧(RS Kj G' a3 c4 ((JR n).2.1))∧L'=[]):=by
 obtain ⟨a1,c1,rfl,w1,hs1⟩:=h_n
 refine JK Tryz.func114 50 [(0,.agg #[I n.now,Sl a1 n.way.length c1])] rfl (fun w0 G0=>?_)
 refine Je (Jb (Ju 1 #[I n.now,Sl a1 n.way.length c1] 39 (fun b1=>Ju 2 #[I 0,Sl none 0 0] 39 (fun b2=>Jd [0,0] [(1,Pt b1 0),(2,Pt b2 0)] (Jc (Ja (Je (Je (Jb (Jd [4] [(1,Pt b1 0),(2,Pt b2 0),(10,.agg #[I n.now,Sl a1 n.way.length c1])] (Ji 11 (I (K1 n)) (Jck G [I n.now,Sl a1 n.way.length c1] n (⟨a1,c1,rfl,w1,hs1⟩)) (Jd [0] [(1,Pt b1 0),(2,Pt b2 0),(5,I (K1 n))] (Jc (Ja (Jg [0,0] [(1,Pt b1 0),(2,Pt b2 0),(5,I (K1 n)),(13,Bo (!decide (K1 n=0)))] (Jo (!decide (K1 n=0)) (fun h1=>?_) (fun h1=>?_)))))))))))))))))
 try simp only [BB] at h1
 refine Jg [0,0,3,0,0] [(2,Pt b2 0),(3,Sl none 0 0),(4,I (K1 n))] (Jk (Jh ?_))
 have hf1:JR n=((⟨0,[]⟩:Z5),[],K1 n):=by
  unfold JR Jbd;(simp_all;done)
 refine Jl [0,0,0] [.agg #[I 0,Sl none 0 0],Sl none 0 0,I (K1 n)] (JY [] (.cons _ (.cons _ .slnil)) (Jt.le_refl _) ?_)
 rw [hf1]
 try dsimp only
 exact ⟨none,0,none,0,rfl,(by omega),(RS.nil' Kj G),(RS.nil' Kj G),rfl⟩
 try simp only [BB] at h1
 refine Jn (Ja (Je (Jg [0,4,0] [(1,Pt b1 0),(2,Pt b2 0),(18,Bo (decide (n.now=1000000000)))] (Jo (decide (n.now=1000000000)) (fun h2=>?_) (fun h2=>?_)))))
 try simp only [BB] at h2
 refine Jg [0,3,0,0] [(2,Pt b2 0),(3,Sl none 0 0),(4,I 9)] (Jk (Jh ?_))
 have hf2:JR n=((⟨0,[]⟩:Z5),[],9):=by
  unfold JR Jbd;(simp_all;done)
 refine Jl [0,0,0] [.agg #[I 0,Sl none 0 0],Sl none 0 0,I 9] (JY [] (.cons _ (.cons _ .slnil)) (Jt.le_refl _) ?_)
 rw [hf2]
 try dsimp only
 exact ⟨none,0,none,0,rfl,(by omega),(RS.nil' Kj G),(RS.nil' Kj G),rfl⟩
 try simp only [BB] at h2
 refine Jn (Ja (Je (Jb (Jd [0,4,0,0] [(1,Pt b1 0),(2,Pt b2 0),(23,.agg #[I (IntKind.i64.wrap (n.now+1)),Sl none 0 0])] ?_))))
 have e1:IntKind.i64.wrap (n.now+1)=n.now+1:=IntWalk.i64_in _ (by (have q_:=QJ ‹_›;omega))
 refine J4 (fr':=[(1,Pt b1 0),(2,Pt b2 0),(23,.agg #[I (n.now+1),Sl none 0 0])]) (L':=[[Sg b2 0 [I 0,Sl none 0 0]],[Sg b1 0 [I n.now,Sl a1 n.way.length c1]]]) (by simp only [J5,K4,e1];first | done | rfl) (by rfl) ?_
 clear e1
 refine Ju 6 #[I 0,Sl none 0 0] 39 (fun b3=>Kd [3] [(1,Pt b1 0),(2,Pt b2 0),(6,Pt b3 0)] [[Sg b3 0 [I (n.now+1),Sl none 0 0]],[Sg b2 0 [I 0,Sl none 0 0]],[Sg b1 0 [I n.now,Sl a1 n.way.length c1]]] (Jc (Ja (Jg [0] [(1,Pt b1 0),(2,Pt b2 0),(6,Pt b3 0),(7,Sl none 0 0)] (Je (Je (Jb (Jd [0,6] [(2,Pt b2 0),(6,Pt b3 0),(7,Sl none 0 0),(25,Sl a1 n.way.length c1)] (JQ 26 (JaN G a1 c1 n.way hs1 (by (have q_:=QJ ‹_›;omega))) (fun v G1 L1 hl1 hp=>?_))))))))))
 obtain ⟨a2,c2,_,rfl,hr1,rfl⟩:=hp
 refine Jd [0,0] [(2,Pt b2 0),(6,Pt b3 0),(7,Sl none 0 0),(26,Sl a2 n.way.length c2),(27,I (n.way.length:Int)),(28,I 0)] (Jc (Ja (Jz (Jmt (E:=Kj) 0 hr1 (by exact (hs1).fit) (fun G2 hl2 hs2=>Yv (Yv ?_))))))
 have hlm_hs2:n.way.length≤9223372036854775807:=Nat.le_trans (hs2).le (hs2).max
 refine Qe (σ:=Nat×Option Addr×Nat×List Ks×List JI×Option Addr×Nat×List Ks×List JI×Jt) (fun q_=>(Jt.le G2 q_.2.2.2.2.2.2.2.2.2)∧(q_.1≤n.way.length)∧(J9 Kj q_.2.2.2.2.2.2.2.2.2 q_.2.1 q_.2.2.1 q_.2.2.2.2.1 q_.2.2.2.1)∧(q_.2.2.2.2.1=(n.way.take q_.1).filter fun l=>decide (l.due=n.now+1))∧(J9 Kj q_.2.2.2.2.2.2.2.2.2 q_.2.2.2.2.2.1 q_.2.2.2.2.2.2.1 q_.2.2.2.2.2.2.2.2.1 q_.2.2.2.2.2.2.2.1)∧(q_.2.2.2.2.2.2.2.2.1=(n.way.take q_.1).filter fun l=>!decide (l.due=n.now+1))) (fun q_=>[(2,Pt b2 0),(6,Pt b3 0),(7,Sl q_.2.1 q_.2.2.2.2.1.length q_.2.2.1),(26,Sl a2 n.way.length c2),(27,I (n.way.length:Int)),(28,I (q_.1:Int))]) (fun q_=>q_.2.2.2.2.2.2.2.2.2) (fun q_=>[q_.2.2.2.2.2.2.2.1,q_.2.2.2.1,[],[Sg b3 0 [I (n.now+1),Sl q_.2.2.2.2.2.1 q_.2.2.2.2.2.2.2.2.1.length q_.2.2.2.2.2.2.1]],[Sg b2 0 [I 0,Sl none 0 0]],[Sg b1 0 [I n.now,Sl a1 n.way.length c1]]]) (fun q_=>n.way.length-q_.1) (0,none,0,[],[],none,0,[],[],G2) ⟨(Jt.le_refl _),(by (try dsimp only);exact Nat.zero_le _),(J9.none Kj _),(by (try dsimp only);rfl),(J9.none Kj _),(by (try dsimp only);rfl)⟩ (fun q_ hs=>?_)
 obtain ⟨i,ac,cc,rc,xc,aw,cw,rw,xw,g⟩:=q_
 obtain ⟨hle,hi,hrc,hxc,hrw,hxw⟩:=hs
 dsimp only at hle hi hrc hxc hrw hxw
 refine KP (fr':=[(2,Pt b2 0),(6,Pt b3 0),(7,Sl ac xc.length cc),(26,Sl a2 n.way.length c2),(27,I (n.way.length:Int)),(28,I (i:Int))]) (L':=[rw,rc,[],[Sg b3 0 [I (n.now+1),Sl aw xw.length cw]],[Sg b2 0 [I 0,Sl none 0 0]],[Sg b1 0 [I n.now,Sl a1 n.way.length c1]]]) rfl rfl (Jg [0] [(2,Pt b2 0),(6,Pt b3 0),(7,Sl ac xc.length cc),(26,Sl a2 n.way.length c2),(27,I (n.way.length:Int)),(28,I (i:Int)),(29,Bo (decide ((i:Int)<(n.way.length:Int))))] (Je (Jo (decide ((i:Int)<(n.way.length:Int))) (fun h3=>?_) (fun h3=>?_))))
 try simp only [BB] at h3
 refine Jn (Ja (Je (Jz (Je (Jb ?_)))))
 obtain ⟨b4,o1,rfl⟩:=RS.addr (hs2.mono hle) (k:=i) (by omega)
 obtain ⟨x1,hx1⟩:=Wj (l:=n.way) (k:=i) (by omega)
 obtain ⟨_,⟨a3,c3,a4,c4,a5,c5,rfl,w2,w3,w4,w5,hs3,w6,w7,w8,w9,w10,hs4,hs5⟩,hc1⟩:=RS.get (hs2.mono hle) hx1
 refine Ki (b:=b4) (off:=o1) (len:=n.way.length) (cap:=c2) (ik:=.i64) 30 72 12 i (by omega) (Ka 31 72 (cs:=(J5 x1 a3 c3 a4 c4 a5 c5)) 0 (K4 x1 a3 c3 a4 c4 a5 c5) hc1 (Ju 9 #[I 0,I 0,I 0,I 0,Sl none 0 0,I 0,U 0,U 0,I 0,Sr ([]),Sl none 0 0,Sl none 0 0] 72 (fun b5=>Kd [3] [(2,Pt b2 0),(6,Pt b3 0),(7,Sl ac xc.length cc),(9,Pt b5 0),(26,Sl (At b4 o1) n.way.length c2),(27,I (n.way.length:Int)),(28,I (i:Int))] [[Sg b5 0 (J5 x1 a3 c3 a4 c4 a5 c5)],rw,rc,[],[Sg b3 0 [I (n.now+1),Sl aw xw.length cw]],[Sg b2 0 [I 0,Sl none 0 0]],[Sg b1 0 [I n.now,Sl a1 n.way.length c1]]] (Jc (Ja (Jg [0,2,0,10,0] [(2,Pt b2 0),(6,Pt b3 0),(7,Sl ac xc.length cc),(9,Pt b5 0),(26,Sl (At b4 o1) n.way.length c2),(27,I (n.way.length:Int)),(28,I (i:Int)),(36,Bo (decide (x1.due=n.now+1)))] (Jo (decide (x1.due=n.now+1)) (fun h4=>?_) (fun h4=>?_))))))))
 try simp only [BB] at h4
 refine Jb (Jd [0,2] [(2,Pt b2 0),(6,Pt b3 0),(7,Sl ac xc.length cc),(26,Sl (At b4 o1) n.way.length c2),(27,I (n.way.length:Int)),(28,I (i:Int)),(37,Sl ac xc.length cc),(38,(K4 x1 a3 c3 a4 c4 a5 c5))] (KG 39 1 #[I x1.to_,I x1.from_,I x1.since,I x1.due,Sl a3 x1.heads.length c3,I x1.reply.head.epoch,U x1.reply.head.root,U x1.reply.head.prev,I x1.reply.head.at_,Sr x1.reply.proof.name,Sl a4 x1.reply.proof.entries.length c4,Sl a5 x1.reply.proof.sides.length c5] 72 (fun b6=>QM (b:=b6) (cs:=(J5 x1 a3 c3 a4 c4 a5 c5)) 40 72 3 0 (E:=Kj) x1 hrc ⟨a3,c3,a4,c4,a5,c5,rfl,w2,w3,w4,w5,hs3,w6,w7,w8,w9,w10,hs4,hs5⟩ (by have q_:=QJ ‹_›;have q1_:=congrArg List.length hxc;have q2_:=congrArg List.length hxw;have q3_:=QZ (fun l:JI=>decide (l.due=n.now+1)) n.way i;have q4_:=QZ (fun l:JI=>!decide (l.due=n.now+1)) n.way i;(try simp only [Kj,List.length_append,List.length_cons,List.length_nil,List.length_take,List.length_map] at *);omega) (by have q_:=QJ ‹_›;have q1_:=congrArg List.length hxc;have q2_:=congrArg List.length hxw;have q3_:=QZ (fun l:JI=>decide (l.due=n.now+1)) n.way i;have q4_:=QZ (fun l:JI=>!decide (l.due=n.now+1)) n.way i;(try simp only [Kj,List.length_append,List.length_cons,List.length_nil,List.length_take,List.length_map] at *);omega) (fun a6 c6 r2 hr2=>Jd [0] [(2,Pt b2 0),(6,Pt b3 0),(7,Sl a6 ((xc++[x1]).length) c6),(26,Sl (At b4 o1) n.way.length c2),(27,I (n.way.length:Int)),(28,I (i:Int))] (Jc (JN (Ja (Jb (Jd [0,0] [(2,Pt b2 0),(6,Pt b3 0),(7,Sl a6 ((xc++[x1]).length) c6),(26,Sl (At b4 o1) n.way.length c2),(27,I (n.way.length:Int)),(28,I (IntKind.i64.wrap ((i:Int)+1)))] ?_)))))))))
 have e2:IntKind.i64.wrap ((i:Int)+1)=(i:Int)+1:=IntWalk.i64_in _ (by omega)
 refine J4 (fr':=[(2,Pt b2 0),(6,Pt b3 0),(7,Sl a6 ((xc++[x1]).length) c6),(26,Sl (At b4 o1) n.way.length c2),(27,I (n.way.length:Int)),(28,I ((i:Int)+1))]) (L':=[[Sg b6 0 [I x1.to_,I x1.from_,I x1.since,I x1.due,Sl a3 x1.heads.length c3,I x1.reply.head.epoch,U x1.reply.head.root,U x1.reply.head.prev,I x1.reply.head.at_,Sr x1.reply.proof.name,Sl a4 x1.reply.proof.entries.length c4,Sl a5 x1.reply.proof.sides.length c5]],[Sg b5 0 [I x1.to_,I x1.from_,I x1.since,I x1.due,Sl a3 x1.heads.length c3,I x1.reply.head.epoch,U x1.reply.head.root,U x1.reply.head.prev,I x1.reply.head.at_,Sr x1.reply.proof.name,Sl a4 x1.reply.proof.entries.length c4,Sl a5 x1.reply.proof.sides.length c5]],rw,r2,[],[Sg b3 0 [I (n.now+1),Sl aw xw.length cw]],[Sg b2 0 [I 0,Sl none 0 0]],[Sg b1 0 [I n.now,Sl a1 n.way.length c1]]]) (by simp only [J5,K4,e2];first | done | rfl) (by rfl) ?_
 clear e2
 exact Jc (Q4 [rw,r2,[],[Sg b3 0 [I (n.now+1),Sl aw xw.length cw]],[Sg b2 0 [I 0,Sl none 0 0]],[Sg b1 0 [I n.now,Sl a1 n.way.length c1]]] (.cons _ (.cons _ (.cons_cons _ (.cons_cons _ (.cons_cons _ (.cons_cons _ (.cons_cons _ (.cons_cons _ .slnil)))))))) (Qh (i+1,a6,c6,r2,xc++[x1],aw,cw,rw,xw,g) ⟨(Jt.le_trans hle (Jt.le_refl _)),(by omega),hr2,(by rw [hxc];exact Jdi hx1 (by simp_all)),hrw,(by rw [hxw];exact Jdj hx1 (by simp_all))⟩ (by (try dsimp only);omega)))
 try simp only [BB] at h4
 refine Jb (Jd [0,10,2] [(2,Pt b2 0),(6,Pt b3 0),(7,Sl ac xc.length cc),(26,Sl (At b4 o1) n.way.length c2),(27,I (n.way.length:Int)),(28,I (i:Int)),(42,Sl aw xw.length cw),(43,(K4 x1 a3 c3 a4 c4 a5 c5))] (KG 44 1 #[I x1.to_,I x1.from_,I x1.since,I x1.due,Sl a3 x1.heads.length c3,I x1.reply.head.epoch,U x1.reply.head.root,U x1.reply.head.prev,I x1.reply.head.at_,Sr x1.reply.proof.name,Sl a4 x1.reply.proof.entries.length c4,Sl a5 x1.reply.proof.sides.length c5] 72 (fun b7=>QM (b:=b7) (cs:=(J5 x1 a3 c3 a4 c4 a5 c5)) 45 72 2 0 (E:=Kj) x1 hrw ⟨a3,c3,a4,c4,a5,c5,rfl,w2,w3,w4,w5,hs3,w6,w7,w8,w9,w10,hs4,hs5⟩ (by have q_:=QJ ‹_›;have q1_:=congrArg List.length hxc;have q2_:=congrArg List.length hxw;have q3_:=QZ (fun l:JI=>decide (l.due=n.now+1)) n.way i;have q4_:=QZ (fun l:JI=>!decide (l.due=n.now+1)) n.way i;(try simp only [Kj,List.length_append,List.length_cons,List.length_nil,List.length_take,List.length_map] at *);omega) (by have q_:=QJ ‹_›;have q1_:=congrArg List.length hxc;have q2_:=congrArg List.length hxw;have q3_:=QZ (fun l:JI=>decide (l.due=n.now+1)) n.way i;have q4_:=QZ (fun l:JI=>!decide (l.due=n.now+1)) n.way i;(try simp only [Kj,List.length_append,List.length_cons,List.length_nil,List.length_take,List.length_map] at *);omega) (fun a7 c7 r3 hr3=>Kd [0,13] [(2,Pt b2 0),(6,Pt b3 0),(7,Sl ac xc.length cc),(26,Sl (At b4 o1) n.way.length c2),(27,I (n.way.length:Int)),(28,I (i:Int))] [[Sg b7 0 (J5 x1 a3 c3 a4 c4 a5 c5)],[Sg b5 0 (J5 x1 a3 c3 a4 c4 a5 c5)],r3,rc,[],[Sg b3 0 [I (n.now+1),Sl a7 ((xw++[x1]).length) c7]],[Sg b2 0 [I 0,Sl none 0 0]],[Sg b1 0 [I n.now,Sl a1 n.way.length c1]]] (Jc (JN (Ja (Jb (Jd [0,0] [(2,Pt b2 0),(6,Pt b3 0),(7,Sl ac xc.length cc),(26,Sl (At b4 o1) n.way.length c2),(27,I (n.way.length:Int)),(28,I (IntKind.i64.wrap ((i:Int)+1)))] ?_)))))))))
 have e3:IntKind.i64.wrap ((i:Int)+1)=(i:Int)+1:=IntWalk.i64_in _ (by omega)
 refine J4 (fr':=[(2,Pt b2 0),(6,Pt b3 0),(7,Sl ac xc.length cc),(26,Sl (At b4 o1) n.way.length c2),(27,I (n.way.length:Int)),(28,I ((i:Int)+1))]) (L':=[[Sg b7 0 [I x1.to_,I x1.from_,I x1.since,I x1.due,Sl a3 x1.heads.length c3,I x1.reply.head.epoch,U x1.reply.head.root,U x1.reply.head.prev,I x1.reply.head.at_,Sr x1.reply.proof.name,Sl a4 x1.reply.proof.entries.length c4,Sl a5 x1.reply.proof.sides.length c5]],[Sg b5 0 [I x1.to_,I x1.from_,I x1.since,I x1.due,Sl a3 x1.heads.length c3,I x1.reply.head.epoch,U x1.reply.head.root,U x1.reply.head.prev,I x1.reply.head.at_,Sr x1.reply.proof.name,Sl a4 x1.reply.proof.entries.length c4,Sl a5 x1.reply.proof.sides.length c5]],r3,rc,[],[Sg b3 0 [I (n.now+1),Sl a7 ((xw++[x1]).length) c7]],[Sg b2 0 [I 0,Sl none 0 0]],[Sg b1 0 [I n.now,Sl a1 n.way.length c1]]]) (by simp only [J5,K4,e3];first | done | rfl) (by rfl) ?_
 clear e3
 exact Jc (Q4 [r3,rc,[],[Sg b3 0 [I (n.now+1),Sl a7 ((xw++[x1]).length) c7]],[Sg b2 0 [I 0,Sl none 0 0]],[Sg b1 0 [I n.now,Sl a1 n.way.length c1]]] (.cons _ (.cons _ (.cons_cons _ (.cons_cons _ (.cons_cons _ (.cons_cons _ (.cons_cons _ (.cons_cons _ .slnil)))))))) (Qh (i+1,ac,cc,rc,xc,a7,c7,r3,xw++[x1],g) ⟨(Jt.le_trans hle (Jt.le_refl _)),(by omega),hrc,(by rw [hxc];exact Jdj hx1 (by simp_all)),hr3,(by rw [hxw];exact Jdi hx1 (by simp_all))⟩ (by (try dsimp only);omega)))
 try simp only [BB] at h3
 refine K2 (J3 (Kf (JV (Ja (WO [8,0,11,0,0] [(2,Pt b2 0),(3,Sl ac xc.length cc),(4,I 0)] [rw,rc,[],[Sg b3 0 [I (n.now+1),Sl aw xw.length cw]],[Sg b2 0 [I (n.now+1),Sl aw xw.length cw]],[Sg b1 0 [I n.now,Sl a1 n.way.length c1]]] (Jk (Wn (E:=Kj) 0 hrw (by have q_:=QJ ‹_›;have q1_:=congrArg List.length hxc;have q2_:=congrArg List.length hxw;have q3_:=QZ (fun l:JI=>decide (l.due=n.now+1)) n.way i;have q4_:=QZ (fun l:JI=>!decide (l.due=n.now+1)) n.way i;(try simp only [Kj,List.length_append,List.length_cons,List.length_nil,List.length_take,List.length_map] at *);omega) (fun G3 hl3 hs6=>Wn (E:=Kj) 1 (hrc.mono hl3) (by have q_:=QJ ‹_›;have q1_:=congrArg List.length hxc;have q2_:=congrArg List.length hxw;have q3_:=QZ (fun l:JI=>decide (l.due=n.now+1)) n.way i;have q4_:=QZ (fun l:JI=>!decide (l.due=n.now+1)) n.way i;(try simp only [Kj,List.length_append,List.length_cons,List.length_nil,List.length_take,List.length_map] at *);omega) (fun G4 hl4 hs7=>?_)))))))))
 have hf3:JR n=((⟨n.now+1,xw⟩:Z5),xc,0):=by
  unfold JR Jbd;(rw [if_neg (by omega),if_neg (by omega),hxw,hxc,List.take_of_length_le (by omega)])
 refine Jl [4,0,0] [.agg #[I (n.now+1),Sl aw xw.length cw],Sl ac xc.length cc,I 0] (JY [] (.cons _ (.cons _ (.cons _ (.cons _ (.cons _ (.cons _ .slnil)))))) (Jt.le_trans (Jt.le_trans (Jt.le_trans (Jt.le_trans hl1 hl2) hle) hl3) hl4) ?_)
 rw [hf3]
 try dsimp only
 exact ⟨aw,cw,ac,cc,rfl,(by (have q_:=QJ ‹_›;omega)),(hs6.mono hl4),hs7,rfl⟩
end Go.Proofs.YtnnlpbjdignhaaaGreatDoor
