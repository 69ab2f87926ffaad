import Derived.Test.YtnnlpbjdignhaaaGreatDoorTcTurns
namespace Go.Proofs.YtnnlpbjdignhaaaGreatDoor
open Go.Tx
set_option linter.unusedVariables false
set_option linter.unusedSimpArgs false
def W5 (b:UInt8):UInt8:=UInt8.ofNat (97-(b.toNat:Int)).toNat
theorem Jg6 {b:UInt8} (h:48≤b.toNat∧b.toNat≤49):Utf8.encode (97-(b.toNat:Int))=B [W5 b]:=Jf1 (by omega) (by omega)
def Jd5 (l:List JV) (p:List UInt8) (k:Nat):Int:=(JO l (p.take k++[W5 (p[k]?.getD 48)])).1
def Yy (l:List JV) (p:List UInt8) (n:Nat):List Int:=(List.range n).map fun i=>Jd5 l p (15-i)
theorem Y0 (l:List JV) (p:List UInt8) (n:Nat):(Yy l p n).length=n:=by unfold Yy;simp
theorem Jg7 {l:List JV} {p:List UInt8} {k:Nat} {y:UInt8} (hy:p[k]? = some y) (hk:k≤15):Yy l p (15-k)++[(JO l (p.take k++[W5 y])).1]=Yy l p (15-k+1):=by
 unfold Yy
 rw [List.range_succ,List.map_append]
 congr 1
 simp only [List.map_cons,List.map_nil]
 unfold Jd5
 rw [show 15-(15-k)=k by omega,hy];rfl
def JcC:Wy:=⟨[],[],[]⟩
def V7 (l:List JV) (p:List UInt8):List JV:=l.filter fun x=>way x.name == p
theorem Jj9 {l:List JV} {i:Nat} {x:JV} {p:List UInt8} (h:l[i]? = some x) (hp:(way x.name == p)=true):V7 (l.take i) p++[x]=V7 (l.take (i+1)) p:=by unfold V7;rw [List.take_add_one,h];simp [hp]
theorem Jka {l:List JV} {i:Nat} {x:JV} {p:List UInt8} (h:l[i]? = some x) (hp:¬ (way x.name == p)=true):V7 (l.take i) p=V7 (l.take (i+1)) p:=by unfold V7;rw [List.take_add_one,h];simp [hp]
theorem Jf5 (l:List JV) (p:List UInt8):(V7 l p).length≤l.length:=List.length_filter_le ..
def Ky (l:List JV) (name:List UInt8):Wy×Int:=if ¬ Kg l=0 then (JcC,Kg l) else if ¬ (Ke name).2=0 then (JcC,(Ke name).2) else (⟨name,V7 l (Ke name).1,Yy l (Ke name).1 16⟩,0)
set_option maxRecDepth 20000 in
theorem Jez (G:Jt) (a_l:Option Addr) (c_l:Nat) (l:List JV) (h_l:RS Qo G a_l c_l l) (name:List UInt8) (hw_name:(name).length≤140737488351232) :QF Tryz.prog 86 #[Sl a_l l.length c_l,Sr name] G [] (fun u G' L'=>∃ (a1:Option Addr) (c2:Nat) (a3:Option Addr) (c4:Nat),u=.tuple #[.agg #[Sr (((Ky l name).1).name),Sl a1 ((((Ky l name).1).entries).length) c2,Sl a3 ((((Ky l name).1).sides).length) c4],I ((Ky l name).2)]∧((((Ky l name).1).name).length≤140737488351232)∧(RS Qo G' a1 c2 (((Ky l name).1).entries))∧(RS EU G' a3 c4 (((Ky l name).1).sides))∧L'=[]):=by
 refine JJ Tryz.func86 78 [(0,Sl a_l l.length c_l),(1,Sr name)] rfl (fun w0 G0=>?_)
 refine Je (Jb (Ju 4 #[Sr ([]),Sl none 0 0,Sl none 0 0] 68 (fun b1=>Jd [0] [(0,Sl a_l l.length c_l),(1,Sr name),(4,Pt b1 0)] (Jc (Ja (Je (Je (Jb (Jd [0] [(0,Sl a_l l.length c_l),(1,Sr name),(4,Pt b1 0),(16,Sl a_l l.length c_l)] (Ji 17 (I (Kg l)) (Yr G a_l c_l l h_l) (Jd [0] [(0,Sl a_l l.length c_l),(1,Sr name),(4,Pt b1 0),(6,I (Kg l))] (Jc (Ja (Jg [0,0] [(0,Sl a_l l.length c_l),(1,Sr name),(4,Pt b1 0),(6,I (Kg l)),(19,Bo (!decide (Kg l=0)))] (Jo (!decide (Kg l=0)) (fun h1=>?_) (fun h1=>?_))))))))))))))))
 try simp only [BB] at h1
 refine Jg [0,0,3,0] [(4,Pt b1 0),(5,I (Kg l))] (Jk (Jh ?_))
 have hf1:Ky l name=((⟨[],[],[]⟩:Wy),Kg l):=by
  unfold Ky JcC;(rw [if_pos ‹_›];done)
 refine Jl [0,0] [.agg #[Sr ([]),Sl none 0 0,Sl none 0 0],I (Kg l)] (JY [] (.cons _ .slnil) (Jt.le_refl _) ?_)
 rw [hf1]
 try dsimp only
 exact ⟨none,0,none,0,rfl,(Nat.le_of_ble_eq_true rfl),(RS.nil' Qo G),(RS.nil' EU G),rfl⟩
 try simp only [BB] at h1
 refine Jm (Ja (Je (Jb (Jd [0] [(0,Sl a_l l.length c_l),(1,Sr name),(4,Pt b1 0),(23,Sr name)] (Ji 24 (.tuple #[Sr ((Ke name).1),I ((Ke name).2)]) (JbI G name hw_name) (Jd [0,0,0,0,0] [(0,Sl a_l l.length c_l),(1,Sr name),(4,Pt b1 0),(7,Sr ((Ke name).1)),(8,I ((Ke name).2))] (Jc (Ja (Je (Jg [0,0] [(0,Sl a_l l.length c_l),(1,Sr name),(4,Pt b1 0),(7,Sr ((Ke name).1)),(8,I ((Ke name).2)),(28,Bo (!decide ((Ke name).2=0)))] (Jo (!decide ((Ke name).2=0)) (fun h2=>?_) (fun h2=>?_))))))))))))
 try simp only [BB] at h2
 refine Jg [0,0,3,0] [(4,Pt b1 0),(5,I ((Ke name).2))] (Jk (Jh ?_))
 have hf2:Ky l name=((⟨[],[],[]⟩:Wy),(Ke name).2):=by
  unfold Ky JcC;(rw [if_neg (by omega)];(rw [if_pos ‹_›];done))
 refine Jl [0,0] [.agg #[Sr ([]),Sl none 0 0,Sl none 0 0],I ((Ke name).2)] (JY [] (.cons _ .slnil) (Jt.le_refl _) ?_)
 rw [hf2]
 try dsimp only
 exact ⟨none,0,none,0,rfl,(Nat.le_of_ble_eq_true rfl),(RS.nil' Qo G),(RS.nil' EU G),rfl⟩
 try simp only [BB] at h2
 refine Jm (Ja (Je (Jb (Jd [0,0] [(0,Sl a_l l.length c_l),(4,Pt b1 0),(7,Sr ((Ke name).1)),(32,.agg #[Sr name,Sl none 0 0,Sl none 0 0])] (Ju 9 #[Sr ([]),Sl none 0 0,Sl none 0 0] 68 (fun b2=>Kd [3] [(0,Sl a_l l.length c_l),(4,Pt b1 0),(7,Sr ((Ke name).1)),(9,Pt b2 0)] [[Sg b2 0 [Sr name,Sl none 0 0,Sl none 0 0]],[Sg b1 0 [Sr ([]),Sl none 0 0,Sl none 0 0]]] (Jc (Ja (Je (Jg [0,0,0] [(0,Sl a_l l.length c_l),(4,Pt b1 0),(7,Sr ((Ke name).1)),(9,Pt b2 0),(33,Sl a_l l.length c_l),(34,I (l.length:Int)),(35,I 0)] (Jz (Yq ?_))))))))))))
 have hlm_h_l:l.length≤9223372036854775807:=Nat.le_trans (h_l).le (h_l).max
 refine Qc (σ:=Nat×Option Addr×Nat×List Ks×List JV×Jt) (fun q_=>(Jt.le G q_.2.2.2.2.2)∧(q_.1≤l.length)∧(J9 Qo q_.2.2.2.2.2 q_.2.1 q_.2.2.1 q_.2.2.2.2.1 q_.2.2.2.1)∧(q_.2.2.2.2.1=V7 (l.take q_.1) (Ke name).1)) (fun q_=>[(0,Sl a_l l.length c_l),(4,Pt b1 0),(7,Sr ((Ke name).1)),(9,Pt b2 0),(33,Sl a_l l.length c_l),(34,I (l.length:Int)),(35,I (q_.1:Int))]) (fun q_=>q_.2.2.2.2.2) (fun q_=>[q_.2.2.2.1,[Sg b2 0 [Sr name,Sl q_.2.1 q_.2.2.2.2.1.length q_.2.2.1,Sl none 0 0]],[Sg b1 0 [Sr ([]),Sl none 0 0,Sl none 0 0]]]) (fun q_=>l.length-q_.1) (0,none,0,[],[],G) ⟨(Jt.le_refl _),(by (try dsimp only);exact Nat.zero_le _),(J9.none Qo _),(by (try dsimp only);simp [V7])⟩ (fun q_ hs=>?_)
 obtain ⟨i,ao,co,ro,xo,g⟩:=q_
 obtain ⟨hle,hi,hro,hxo⟩:=hs
 dsimp only at hle hi hro hxo
 refine KQ (fr':=[(0,Sl a_l l.length c_l),(4,Pt b1 0),(7,Sr ((Ke name).1)),(9,Pt b2 0),(33,Sl a_l l.length c_l),(34,I (l.length:Int)),(35,I (i:Int))]) (L':=[ro,[Sg b2 0 [Sr name,Sl ao xo.length co,Sl none 0 0]],[Sg b1 0 [Sr ([]),Sl none 0 0,Sl none 0 0]]]) rfl rfl (Jg [0] [(0,Sl a_l l.length c_l),(4,Pt b1 0),(7,Sr ((Ke name).1)),(9,Pt b2 0),(33,Sl a_l l.length c_l),(34,I (l.length:Int)),(35,I (i:Int)),(36,Bo (decide ((i:Int)<(l.length:Int))))] (Je (Jo (decide ((i:Int)<(l.length:Int))) (fun h3=>?_) (fun h3=>?_))))
 try simp only [BB] at h3
 refine Jm (Ja (Je (Jz (Je (Jb ?_)))))
 obtain ⟨b3,o1,rfl⟩:=RS.addr (h_l.mono hle) (k:=i) (by omega)
 obtain ⟨x1,hx1⟩:=Wh (l:=l) (k:=i) (by omega)
 obtain ⟨_,⟨rfl,w1,_⟩,hc1⟩:=RS.get (h_l.mono hle) hx1
 refine Kh (b:=b3) (off:=o1) (len:=l.length) (cap:=c_l) (ik:=.i64) 37 94 2 i (by omega) (Ka 38 94 (cs:=[Sr x1.name,Sr x1.value]) 0 (.agg #[Sr x1.name,Sr x1.value]) hc1 (Ju 11 #[Sr ([]),Sr ([])] 94 (fun b4=>Kd [3] [(0,Sl (At b3 o1) l.length c_l),(4,Pt b1 0),(7,Sr ((Ke name).1)),(9,Pt b2 0),(11,Pt b4 0),(33,Sl (At b3 o1) l.length c_l),(34,I (l.length:Int)),(35,I (i:Int))] [[Sg b4 0 [Sr x1.name,Sr x1.value]],ro,[Sg b2 0 [Sr name,Sl ao xo.length co,Sl none 0 0]],[Sg b1 0 [Sr ([]),Sl none 0 0,Sl none 0 0]]] (Jc (Ja (Je (Jb (Jd [0,2] [(0,Sl (At b3 o1) l.length c_l),(4,Pt b1 0),(7,Sr ((Ke name).1)),(9,Pt b2 0),(11,Pt b4 0),(33,Sl (At b3 o1) l.length c_l),(34,I (l.length:Int)),(35,I (i:Int)),(40,Sr x1.name)] (Ji 41 (Sr (way x1.name)) (Jb1 g x1.name w1) (Jd [0,0] [(0,Sl (At b3 o1) l.length c_l),(4,Pt b1 0),(7,Sr ((Ke name).1)),(9,Pt b2 0),(11,Pt b4 0),(33,Sl (At b3 o1) l.length c_l),(34,I (l.length:Int)),(35,I (i:Int)),(43,Bo ((B (way x1.name)).toList == (B ((Ke name).1)).toList))] (J3 (fr':=[(0,Sl (At b3 o1) l.length c_l),(4,Pt b1 0),(7,Sr ((Ke name).1)),(9,Pt b2 0),(11,Pt b4 0),(33,Sl (At b3 o1) l.length c_l),(34,I (l.length:Int)),(35,I (i:Int)),(43,Bo (way x1.name == (Ke name).1))]) (L':=[[Sg b4 0 [Sr x1.name,Sr x1.value]],ro,[Sg b2 0 [Sr name,Sl ao xo.length co,Sl none 0 0]],[Sg b1 0 [Sr ([]),Sl none 0 0,Sl none 0 0]]]) (by simp only [Za]) (by rfl) (Jc (Ja (Jo (way x1.name == (Ke name).1) (fun h4=>?_) (fun h4=>?_)))))))))))))))
 try simp only [BB] at h4
 refine Jb (Jd [0,6,2] [(0,Sl (At b3 o1) l.length c_l),(4,Pt b1 0),(7,Sr ((Ke name).1)),(9,Pt b2 0),(33,Sl (At b3 o1) l.length c_l),(34,I (l.length:Int)),(35,I (i:Int)),(45,Sl ao xo.length co),(46,.agg #[Sr x1.name,Sr x1.value])] (KH 47 1 #[Sr x1.name,Sr x1.value] 94 (fun b5=>QJ (b:=b5) (cs:=[Sr x1.name,Sr x1.value]) 48 94 2 0 (E:=Qo) x1 hro ⟨rfl,‹_›,‹_›⟩ (by have q_:=(KJ.1 ‹_›).len;(have q2_:=Jf5 (l.take i) (Ke name).1;have q3_:=congrArg List.length hxo;rw [List.length_take] at q2_;(try simp only [Qo,EU,List.length_append,List.length_cons,List.length_nil] at *);omega)) (by have q_:=(KJ.1 ‹_›).len;(have q2_:=Jf5 (l.take i) (Ke name).1;have q3_:=congrArg List.length hxo;rw [List.length_take] at q2_;(try simp only [Qo,EU,List.length_append,List.length_cons,List.length_nil] at *);omega)) (fun a1 c1 r1 hr1=>Kd [0,9] [(0,Sl (At b3 o1) l.length c_l),(4,Pt b1 0),(7,Sr ((Ke name).1)),(9,Pt b2 0),(33,Sl (At b3 o1) l.length c_l),(34,I (l.length:Int)),(35,I (i:Int))] [[Sg b5 0 [Sr x1.name,Sr x1.value]],[Sg b4 0 [Sr x1.name,Sr x1.value]],r1,[Sg b2 0 [Sr name,Sl a1 ((xo++[x1]).length) c1,Sl none 0 0]],[Sg b1 0 [Sr ([]),Sl none 0 0,Sl none 0 0]]] (Jc (JM (Ja (Jb (Jd [0,0] [(0,Sl (At b3 o1) l.length c_l),(4,Pt b1 0),(7,Sr ((Ke name).1)),(9,Pt b2 0),(33,Sl (At b3 o1) l.length c_l),(34,I (l.length:Int)),(35,I (IntKind.i64.wrap ((i:Int)+1)))] ?_)))))))))
 have e1:IntKind.i64.wrap ((i:Int)+1)=(i:Int)+1:=IntWalk.i64_in _ (by omega)
 refine J3 (fr':=[(0,Sl (At b3 o1) l.length c_l),(4,Pt b1 0),(7,Sr ((Ke name).1)),(9,Pt b2 0),(33,Sl (At b3 o1) l.length c_l),(34,I (l.length:Int)),(35,I ((i:Int)+1))]) (L':=[[Sg b5 0 [Sr x1.name,Sr x1.value]],[Sg b4 0 [Sr x1.name,Sr x1.value]],r1,[Sg b2 0 [Sr name,Sl a1 ((xo++[x1]).length) c1,Sl none 0 0]],[Sg b1 0 [Sr ([]),Sl none 0 0,Sl none 0 0]]]) (by simp only [e1]) (by rfl) ?_
 clear e1
 exact Jc (Q4 [r1,[Sg b2 0 [Sr name,Sl a1 ((xo++[x1]).length) c1,Sl none 0 0]],[Sg b1 0 [Sr ([]),Sl none 0 0,Sl none 0 0]]] (.cons _ (.cons _ (.cons_cons _ (.cons_cons _ (.cons_cons _ .slnil))))) (Qg (i+1,a1,c1,r1,xo++[x1],g) ⟨(Jt.le_trans hle (Jt.le_refl _)),(by omega),hr1,(by (try dsimp only);rw [hxo];exact Jj9 hx1 (by simp_all))⟩ (by (try dsimp only);omega)))
 try simp only [BB] at h4
 refine Jm (JM (Ja (Jb (Jd [0,0] [(0,Sl (At b3 o1) l.length c_l),(4,Pt b1 0),(7,Sr ((Ke name).1)),(9,Pt b2 0),(33,Sl (At b3 o1) l.length c_l),(34,I (l.length:Int)),(35,I (IntKind.i64.wrap ((i:Int)+1)))] ?_))))
 have e2:IntKind.i64.wrap ((i:Int)+1)=(i:Int)+1:=IntWalk.i64_in _ (by omega)
 refine J3 (fr':=[(0,Sl (At b3 o1) l.length c_l),(4,Pt b1 0),(7,Sr ((Ke name).1)),(9,Pt b2 0),(33,Sl (At b3 o1) l.length c_l),(34,I (l.length:Int)),(35,I ((i:Int)+1))]) (L':=[[Sg b4 0 [Sr x1.name,Sr x1.value]],ro,[Sg b2 0 [Sr name,Sl ao xo.length co,Sl none 0 0]],[Sg b1 0 [Sr ([]),Sl none 0 0,Sl none 0 0]]]) (by simp only [e2]) (by rfl) ?_
 clear e2
 exact Jc (Q4 [ro,[Sg b2 0 [Sr name,Sl ao xo.length co,Sl none 0 0]],[Sg b1 0 [Sr ([]),Sl none 0 0,Sl none 0 0]]] (.cons _ (.cons_cons _ (.cons_cons _ (.cons_cons _ .slnil)))) (Qg (i+1,ao,co,ro,xo,g) ⟨(Jt.le_trans hle (Jt.le_refl _)),(by omega),hro,(by (try dsimp only);rw [hxo];exact Jka hx1 (by simp_all))⟩ (by (try dsimp only);omega)))
 try simp only [BB] at h3
 refine K0 (J2 (Kf (JU (Ja (Je (Jg [0] [(0,Sl a_l l.length c_l),(4,Pt b1 0),(7,Sr ((Ke name).1)),(9,Pt b2 0),(12,I 15)] (Jz (Yq ?_))))))))
 have hlm_h_l:l.length≤9223372036854775807:=Nat.le_trans (h_l).le (h_l).max
 refine Qc (σ:=Int×Option Addr×Nat×List Ks×List JV×Option Addr×Nat×List Ks×List Int×Jt) (fun q_=>(Jt.le g q_.2.2.2.2.2.2.2.2.2)∧(-1≤q_.1∧q_.1≤15)∧(J9 Qo q_.2.2.2.2.2.2.2.2.2 q_.2.1 q_.2.2.1 q_.2.2.2.2.1 q_.2.2.2.1)∧(q_.2.2.2.2.1=V7 l (Ke name).1)∧(J9 EU q_.2.2.2.2.2.2.2.2.2 q_.2.2.2.2.2.1 q_.2.2.2.2.2.2.1 q_.2.2.2.2.2.2.2.2.1 q_.2.2.2.2.2.2.2.1)∧(q_.2.2.2.2.2.2.2.2.1=Yy l (Ke name).1 (15-q_.1).toNat)) (fun q_=>[(0,Sl a_l l.length c_l),(4,Pt b1 0),(7,Sr ((Ke name).1)),(9,Pt b2 0),(12,I q_.1)]) (fun q_=>q_.2.2.2.2.2.2.2.2.2) (fun q_=>[q_.2.2.2.2.2.2.2.1,q_.2.2.2.1,[Sg b2 0 [Sr name,Sl q_.2.1 q_.2.2.2.2.1.length q_.2.2.1,Sl q_.2.2.2.2.2.1 q_.2.2.2.2.2.2.2.2.1.length q_.2.2.2.2.2.2.1]],[Sg b1 0 [Sr ([]),Sl none 0 0,Sl none 0 0]]]) (fun q_=>(q_.1+1).toNat) (15,ao,co,ro,xo,none,0,[],[],g) ⟨(Jt.le_refl _),(by (try dsimp only);omega),hro,(by (try dsimp only);rw [hxo,List.take_of_length_le (by omega)]),(J9.none EU _),rfl⟩ (fun q_ hs=>?_)
 obtain ⟨k,ao,co,ro,xo,am,cm,rm,xm,g1_⟩:=q_
 obtain ⟨hle1_,hk,hro,hxo,hrm,hxm⟩:=hs
 dsimp only at hle1_ hk hro hxo hrm hxm
 refine KQ (fr':=[(0,Sl a_l l.length c_l),(4,Pt b1 0),(7,Sr ((Ke name).1)),(9,Pt b2 0),(12,I k)]) (L':=[rm,ro,[Sg b2 0 [Sr name,Sl ao xo.length co,Sl am xm.length cm]],[Sg b1 0 [Sr ([]),Sl none 0 0,Sl none 0 0]]]) rfl rfl (Je (Jg [0,0] [(0,Sl a_l l.length c_l),(4,Pt b1 0),(7,Sr ((Ke name).1)),(9,Pt b2 0),(12,I k),(52,Bo (decide (k ≥ 0)))] (Jo (decide (k ≥ 0)) (fun h5=>?_) (fun h5=>?_))))
 try simp only [BB] at h5
 refine Jm (Ja (Je (Jz ?_)))
 obtain ⟨kn1,hkn1⟩:∃ k_:Nat,k=(k_:Int):=⟨(k).toNat,by omega⟩
 have e3:k=(kn1:Int):=hkn1
 refine KQ (fr':=[(0,Sl a_l l.length c_l),(4,Pt b1 0),(7,Sr ((Ke name).1)),(9,Pt b2 0),(12,I (kn1:Int)),(52,Bo (decide (k ≥ 0)))]) (L':=[rm,ro,[Sg b2 0 [Sr name,Sl ao xo.length co,Sl am xm.length cm]],[Sg b1 0 [Sr ([]),Sl none 0 0,Sl none 0 0]]]) (by (simp only [e3];done)) (by rfl) (Je ?_)
 obtain ⟨y1,hy1⟩:=Wh (l:=(Ke name).1) (k:=kn1) (by (have q_:=Jcz (a:=name) ‹_›;have q1_:=congrArg List.length q_;rw [Vk] at q1_;omega))
 have hb_y1:=y1.toNat_lt
 have e4:IntKind.i32.wrap (y1.toNat:Int)=(y1.toNat:Int):=by (rw [IntKind.wrap_i32];omega)
 have e5:IntKind.i32.wrap (97-(y1.toNat:Int))=97-(y1.toNat:Int):=by (rw [IntKind.wrap_i32];omega)
 refine KB [] (Wr [(0,Sr ((Ke name).1)),(1,I (kn1:Int)),(2,Sr (((Ke name).1).take kn1)),(3,Sr ((Ke name).1)),(4,I (kn1:Int)),(5,Y (y1.toNat:Int)),(6,.int .i32 (y1.toNat:Int)),(7,.int .i32 (97-(y1.toNat:Int))),(8,Sr ([W5 y1])),(9,Sr ((((Ke name).1).take kn1)++([W5 y1]))),(10,Sr ((((Ke name).1).take kn1)++([W5 y1])))] (KA [] [(0,0),(1,0),(3,0),(4,0),(10,0)] [2,5,6,7,8,9] [(0,Sl a_l l.length c_l),(4,Pt b1 0),(7,Sr ((Ke name).1)),(9,Pt b2 0),(12,I (kn1:Int)),(13,Sr ((((Ke name).1).take kn1)++([W5 y1])))] (List.forall_mem_cons.2 ⟨?_,(List.forall_mem_cons.2 ⟨?_,(List.forall_mem_cons.2 ⟨?_,(List.forall_mem_cons.2 ⟨?_,(List.forall_mem_cons.2 ⟨?_,(List.forall_mem_cons.2 ⟨?_,List.forall_mem_nil _⟩)⟩)⟩)⟩)⟩)⟩) ?_))
 refine Jr 2 57 (Sr (((Ke name).1).take kn1)) [(55,Sr ((Ke name).1)),(56,I (kn1:Int))] (fun X=>?_)
 exact Jcs (l:=(Ke name).1) 57 none (some (I (kn1:Int))) 0 kn1 (.inl ⟨rfl,rfl⟩) (.inr ⟨_,rfl⟩) (Nat.zero_le _) (by (have q_:=Jcz (a:=name) ‹_›;have q1_:=congrArg List.length q_;rw [Vk] at q1_;omega)) Jp
 refine Jr 5 60 (Y (y1.toNat:Int)) [(58,Sr ((Ke name).1)),(59,I (kn1:Int))] (fun X=>?_)
 exact Jac (ik:=.i64) 60 kn1 y1 hy1 Jp
 refine Jr 6 61 (.int .i32 (y1.toNat:Int)) [(60,Y (y1.toNat:Int))] (fun X=>?_)
 exact K6 61 (.int .i32 (IntKind.i32.wrap (y1.toNat:Int))) (.int .i32 (y1.toNat:Int)) (by simp only [e4]) Jp
 refine Jr 7 62 (.int .i32 (97-(y1.toNat:Int))) [(61,.int .i32 (y1.toNat:Int))] (fun X=>?_)
 exact K6 62 (.int .i32 (IntKind.i32.wrap (97-(y1.toNat:Int)))) (.int .i32 (97-(y1.toNat:Int))) (by simp only [e5]) Jp
 refine Jr 8 63 (Sr ([W5 y1])) [(62,.int .i32 (97-(y1.toNat:Int)))] (fun X=>?_)
 exact Jlf 63 (97-(y1.toNat:Int)) [W5 y1] (Jg6 (isB_bd (JbJ name _ (List.mem_of_getElem? (by rw [← Jcz ‹_›];exact hy1))))) Jp
 refine Jr 9 64 (Sr ((((Ke name).1).take kn1)++([W5 y1]))) [(57,Sr (((Ke name).1).take kn1)),(63,Sr ([W5 y1]))] (fun X=>?_)
 exact ZB 64 (((Ke name).1).take kn1) ([W5 y1]) (by (try simp only [List.length_append,List.length_take,List.length_cons,List.length_nil]);omega) Jp
 refine Ja (Je (Jb (Jd [0,0] [(0,Sl a_l l.length c_l),(4,Pt b1 0),(7,Sr ((Ke name).1)),(9,Pt b2 0),(12,I (kn1:Int)),(66,Sl a_l l.length c_l),(67,Sr ((((Ke name).1).take kn1)++([W5 y1])))] (Ji 68 (.tuple #[U ((JO l ((((Ke name).1).take kn1)++([W5 y1]))).1),I ((JO l ((((Ke name).1).take kn1)++([W5 y1]))).2)]) (Jc2 g1_ a_l c_l l (h_l.mono (Jt.le_trans hle hle1_)) ((((Ke name).1).take kn1)++([W5 y1])) (by (simp;omega))) (Jd [0,0,0,0,0] [(0,Sl a_l l.length c_l),(4,Pt b1 0),(7,Sr ((Ke name).1)),(9,Pt b2 0),(12,I (kn1:Int)),(14,U ((JO l ((((Ke name).1).take kn1)++([W5 y1]))).1))] (Jc (Ja (Jb (Jd [0,6,0] [(0,Sl a_l l.length c_l),(4,Pt b1 0),(7,Sr ((Ke name).1)),(9,Pt b2 0),(12,I (kn1:Int)),(72,Sl am xm.length cm),(73,U ((JO l ((((Ke name).1).take kn1)++([W5 y1]))).1))] (KH 74 1 #[U ((JO l ((((Ke name).1).take kn1)++([W5 y1]))).1)] 48 (fun b6=>QJ (b:=b6) (cs:=[U ((JO l ((((Ke name).1).take kn1)++([W5 y1]))).1)]) 75 48 1 0 (E:=EU) ((JO l ((((Ke name).1).take kn1)++([W5 y1]))).1) hrm ⟨rfl,(Yx _ _)⟩ (by have q_:=(KJ.1 ‹_›).len;(have q3_:=congrArg List.length hxm;rw [Y0] at q3_;(try simp only [Qo,EU,List.length_append,List.length_cons,List.length_nil] at *);omega)) (by have q_:=(KJ.1 ‹_›).len;(have q3_:=congrArg List.length hxm;rw [Y0] at q3_;(try simp only [Qo,EU,List.length_append,List.length_cons,List.length_nil] at *);omega)) (fun a2 c2 r2 hr2=>Kd [0,9] [(0,Sl a_l l.length c_l),(4,Pt b1 0),(7,Sr ((Ke name).1)),(9,Pt b2 0),(12,I (kn1:Int))] [[Sg b6 0 [U ((JO l ((((Ke name).1).take kn1)++([W5 y1]))).1)]],r2,ro,[Sg b2 0 [Sr name,Sl ao xo.length co,Sl a2 ((xm++[(JO l ((((Ke name).1).take kn1)++([W5 y1]))).1]).length) c2]],[Sg b1 0 [Sr ([]),Sl none 0 0,Sl none 0 0]]] (Jc (JM (Ja (Jb (Jd [0,0,0] [(0,Sl a_l l.length c_l),(4,Pt b1 0),(7,Sr ((Ke name).1)),(9,Pt b2 0),(12,I (IntKind.i64.wrap ((kn1:Int)-1)))] ?_)))))))))))))))))
 have e6:IntKind.i64.wrap ((kn1:Int)-1)=(kn1:Int)-1:=IntWalk.i64_in _ (by omega)
 refine J3 (fr':=[(0,Sl a_l l.length c_l),(4,Pt b1 0),(7,Sr ((Ke name).1)),(9,Pt b2 0),(12,I ((kn1:Int)-1))]) (L':=[[Sg b6 0 [U ((JO l ((((Ke name).1).take kn1)++([W5 y1]))).1)]],r2,ro,[Sg b2 0 [Sr name,Sl ao xo.length co,Sl a2 ((xm++[(JO l ((((Ke name).1).take kn1)++([W5 y1]))).1]).length) c2]],[Sg b1 0 [Sr ([]),Sl none 0 0,Sl none 0 0]]]) (by simp only [e6]) (by rfl) ?_
 clear e6
 exact Jc (Q4 [r2,ro,[Sg b2 0 [Sr name,Sl ao xo.length co,Sl a2 ((xm++[(JO l ((((Ke name).1).take kn1)++([W5 y1]))).1]).length) c2]],[Sg b1 0 [Sr ([]),Sl none 0 0,Sl none 0 0]]] (.cons _ (.cons_cons _ (.cons_cons _ (.cons_cons _ (.cons_cons _ .slnil))))) (Qg ((kn1:Int)-1,ao,co,ro,xo,a2,c2,r2,xm++[(JO l ((((Ke name).1).take kn1)++([W5 y1]))).1],g1_) ⟨(Jt.le_trans hle1_ (Jt.le_refl _)),(by (try dsimp only);omega),hro,hxo,hr2,(by (try dsimp only);rw [hxm,show (15-((kn1:Int)-1)).toNat=15-kn1+1 by omega,show (15-k).toNat=15-kn1 by omega];exact Jg7 hy1 (by omega))⟩ (by (try dsimp only);omega)))
 try simp only [BB] at h5
 refine K0 (J2 (Kf (JU (Ja (WM [6,9,0] [(4,Pt b1 0),(5,I 0)] [rm,ro,[Sg b2 0 [Sr name,Sl ao xo.length co,Sl am xm.length cm]],[Sg b1 0 [Sr name,Sl ao xo.length co,Sl am xm.length cm]]] (Jk (Wn (E:=Qo) 1 hro (by have q_:=(KJ.1 ‹_›).len;(have q3_:=congrArg List.length hxo;have q2_:=Jf5 l (Ke name).1;(try simp only [Qo,EU,List.length_append,List.length_cons,List.length_nil] at *);omega)) (fun G1 hl1 hs1=>Wn (E:=EU) 0 (hrm.mono hl1) (by have q_:=(KJ.1 ‹_›).len;(have q3_:=congrArg List.length hxm;rw [Y0] at q3_;(try simp only [Qo,EU,List.length_append,List.length_cons,List.length_nil] at *);omega)) (fun G2 hl2 hs2=>?_)))))))))
 have hf3:Ky l name=((⟨name,xo,xm⟩:Wy),0):=by
  unfold Ky JcC;(rw [if_neg (by omega)];(rw [if_neg (by omega),hxo,hxm,show (15-k).toNat=16 by omega];done))
 refine Jl [3,0] [.agg #[Sr name,Sl ao xo.length co,Sl am xm.length cm],I 0] (JY [] (.cons _ (.cons _ (.cons _ (.cons _ .slnil)))) (Jt.le_trans (Jt.le_trans (Jt.le_trans hle hle1_) hl1) hl2) ?_)
 rw [hf3]
 try dsimp only
 exact ⟨ao,co,am,cm,rfl,hw_name,(hs1.mono hl2),hs2,rfl⟩
end Go.Proofs.YtnnlpbjdignhaaaGreatDoor
