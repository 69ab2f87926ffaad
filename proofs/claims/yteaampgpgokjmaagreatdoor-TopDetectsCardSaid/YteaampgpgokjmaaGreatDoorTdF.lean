import Derived.Test.YteaampgpgokjmaaGreatDoorTdE
import Derived.Stop.LaidErr
set_option linter.unusedVariables false
set_option linter.unusedSimpArgs false
namespace Go.Proofs.YteaampgpgokjmaaGreatDoor
open Go.Tx
open Go.Proofs
def Zr (t:KO) (w:List (List UInt8)):List (List UInt8)×Int :=
 if ¬ (Kk (VM w 1)).2=0 then ([],(Kk (VM w 1)).2) else if ¬ (JB t.setup t.deeds).2.2=0 then ([],(JB t.setup t.deeds).2.2)
 else if ¬ (JJ (JB t.setup t.deeds).1.clerk (VM w 0) (Kk (VM w 1)).1).2=0 then ([],(JJ (JB t.setup t.deeds).1.clerk (VM w 0) (Kk (VM w 1)).1).2)
 else if ¬ (Jq (JJ (JB t.setup t.deeds).1.clerk (VM w 0) (Kk (VM w 1)).1).1).2.2=0 then ([],(Jq (JJ (JB t.setup t.deeds).1.clerk (VM w 0) (Kk (VM w 1)).1).1).2.2)
 else if (Jq (JJ (JB t.setup t.deeds).1.clerk (VM w 0) (Kk (VM w 1)).1).1).2.1=false then ([[45]],0) else ([[43],(Jq (JJ (JB t.setup t.deeds).1.clerk (VM w 0) (Kk (VM w 1)).1).1).1],0)
section
variable {t:KO} {w:List (List UInt8)} {x y:List UInt8}
theorem Jpz (h:w[1]? = some y) (h1:¬ (Kk y).2=0):(Zr t w).2=(Kk y).2:=by unfold Zr;rw [← Ws h,if_pos h1]
theorem JpA (h:w[1]? = some y) (h1:(Kk y).2=0) (h2:¬ (JB t.setup t.deeds).2.2=0):(Zr t w).2=(JB t.setup t.deeds).2.2:=by unfold Zr;rw [← Ws h,if_neg (by omega),if_pos h2]
theorem JpB (h:w[1]? = some y) (h0:w[0]? = some x) (h1:(Kk y).2=0) (h2:(JB t.setup t.deeds).2.2=0) (h3:¬ (JJ (JB t.setup t.deeds).1.clerk x (Kk y).1).2=0):(Zr t w).2=(JJ (JB t.setup t.deeds).1.clerk x (Kk y).1).2:=by
 unfold Zr;rw [← Ws h,← Ws h0,if_neg (by omega),if_neg (by omega),if_pos h3]
theorem JpC (h:w[1]? = some y) (h0:w[0]? = some x) (h1:(Kk y).2=0) (h2:(JB t.setup t.deeds).2.2=0) (h3:(JJ (JB t.setup t.deeds).1.clerk x (Kk y).1).2=0) (h4:¬ (Jq (JJ (JB t.setup t.deeds).1.clerk x (Kk y).1).1).2.2=0) :
  (Zr t w).2=(Jq (JJ (JB t.setup t.deeds).1.clerk x (Kk y).1).1).2.2:=by
 unfold Zr;rw [← Ws h,← Ws h0,if_neg (by omega),if_neg (by omega),if_neg (by omega),if_pos h4]
theorem JpD (h:w[1]? = some y) (h0:w[0]? = some x) (h1:(Kk y).2=0) (h2:(JB t.setup t.deeds).2.2=0) (h3:(JJ (JB t.setup t.deeds).1.clerk x (Kk y).1).2=0) (h4:(Jq (JJ (JB t.setup t.deeds).1.clerk x (Kk y).1).1).2.2=0)
  (h5:(Jq (JJ (JB t.setup t.deeds).1.clerk x (Kk y).1).1).2.1=false):Zr t w=([[45]],0):=by
 unfold Zr;rw [← Ws h,← Ws h0,if_neg (by omega),if_neg (by omega),if_neg (by omega),if_neg (by omega),if_pos h5]
theorem JpE (h:w[1]? = some y) (h0:w[0]? = some x) (h1:(Kk y).2=0) (h2:(JB t.setup t.deeds).2.2=0) (h3:(JJ (JB t.setup t.deeds).1.clerk x (Kk y).1).2=0) (h4:(Jq (JJ (JB t.setup t.deeds).1.clerk x (Kk y).1).1).2.2=0)
  (h5:(Jq (JJ (JB t.setup t.deeds).1.clerk x (Kk y).1).1).2.1=true):Zr t w=([[43],(Jq (JJ (JB t.setup t.deeds).1.clerk x (Kk y).1).1).1],0):=by
 unfold Zr;rw [← Ws h,← Ws h0,if_neg (by omega),if_neg (by omega),if_neg (by omega),if_neg (by omega),if_neg (by rw [h5];simp)]
end
def Jjt (t:KO) (w:List (List UInt8)):List (List UInt8)×Int :=
 if ¬ (JB t.setup t.deeds).2.2=0 then ([],(JB t.setup t.deeds).2.2) else if ¬ (KV (WU (JB t.setup t.deeds).1.clerk.heads)).2=0 then ([],(KV (WU (JB t.setup t.deeds).1.clerk.heads)).2)
 else ([Lib.itoa (KV (WU (JB t.setup t.deeds).1.clerk.heads)).1],0)
section
variable {t:KO} {w:List (List UInt8)} {x:JQ} {k:Nat}
end
def Jju (t:KO) (w:List (List UInt8)):List (List UInt8)×Int :=
 if ¬ (Kk (VM w 0)).2=0 then ([],(Kk (VM w 0)).2) else if ¬ (JB t.setup t.deeds).2.2=0 then ([],(JB t.setup t.deeds).2.2)
 else match (JB t.setup t.deeds).1.owners[(Kk (VM w 0)).1.toNat]? with
  | some o=>([o.head.epoch,o.had].map Lib.itoa,0)
  | none=>([],5)
section
variable {t:KO} {w:List (List UInt8)} {y:List UInt8}
end
set_option maxRecDepth 20000 in
theorem JmU (G:Jp) (b:Nat) (t:KO) (a_0:Option Addr) (c_0:Nat) (a_1:Option Addr) (c_1:Nat) (a_9:Option Addr) (c_9:Nat) (r_9:List Kg) (h_0:RS ES G a_0 c_0 t.setup.names) (h_1:RS EU G a_1 c_1 t.setup.keys) (h_2:rI t.setup.most) (h_3:rI t.setup.batch) (h_4:rI t.setup.every) (h_5:rI t.setup.least) (h_6:rI t.setup.top) (h_7:rI t.setup.lost) (h_8:rI t.setup.reach) (h_9:J0 WW G a_9 c_9 t.deeds r_9) (a_w:Option Addr) (c_w:Nat) (w:List (List UInt8)) (h_w:RS ES G a_w c_w w) (hw:w.length=2) (hs:∀ s∈w,s.length≤1048576) (ht:t.deeds.length≤200):YP Tryz.prog 86 #[Pt b 0,Sl a_w w.length c_w] G [[Sg b 0 [Sl a_0 t.setup.names.length c_0,Sl a_1 t.setup.keys.length c_1,I t.setup.most,I t.setup.batch,I t.setup.every,I t.setup.least,I t.setup.top,I t.setup.lost,I t.setup.reach,Sl a_9 t.deeds.length c_9]],r_9] (fun u G' L'=>((Zr t w).2=0)∧∃ (az1:Option Addr) (cz2:Nat),u=Sl az1 (((Zr t w).1).length) cz2∧(RS ES G' az1 cz2 ((Zr t w).1))∧L'=[[Sg b 0 [Sl a_0 t.setup.names.length c_0,Sl a_1 t.setup.keys.length c_1,I t.setup.most,I t.setup.batch,I t.setup.every,I t.setup.least,I t.setup.top,I t.setup.lost,I t.setup.reach,Sl a_9 t.deeds.length c_9]],r_9]) (fun u _ L'=>(¬ (Zr t w).2=0)∧u=JaB ((Zr t w).2)∧L'=[[Sg b 0 [Sl a_0 t.setup.names.length c_0,Sl a_1 t.setup.keys.length c_1,I t.setup.most,I t.setup.batch,I t.setup.every,I t.setup.least,I t.setup.top,I t.setup.lost,I t.setup.reach,Sl a_9 t.deeds.length c_9]],r_9]):=by
 intro Lr
 refine YM Tryz.func86 46 [(0,Pt b 0),(1,Sl a_w w.length c_w)] rfl (fun w0 G0 hT=>?_)
 show TC _ _ _ _ _ ([Sg b 0 (KK t a_0 c_0 a_1 c_1 a_9 c_9)]::r_9::Lr)
 refine Jf [0] [] (Je (Jc (Ja [0] [(12,Sl a_w w.length c_w)] ?_)))
 obtain ⟨b1,o1,rfl⟩:=RS.addr h_w (k:=1) (by omega)
 obtain ⟨x1,hx1⟩:=We (l:=w) (k:=1) (by omega)
 obtain ⟨_,⟨rfl,_⟩,hc1⟩:=RS.get h_w hx1
 refine J3 (b:=b1) (off:=o1) (len:=w.length) (cap:=c_w) (ik:=.i64) 13 9 1 1 J7 (JW 14 9 (cs:=[Sr x1]) 0 (Sr x1) hc1 (QJ (Ls:=[]) (Lr:=([Sg b 0 (KK t a_0 c_0 a_1 c_1 a_9 c_9)]::r_9::Lr)) 15 hT ((VK G x1 (by have q_:=hs _ (List.mem_of_getElem? hx1);omega)).frame) (fun v G1 L1 hl1 hp=>?_) (fun v G1 L1 hl1 hp=>?_)))
 obtain ⟨hne1,rfl,rfl⟩:=hp
 refine KJ ?_
 have hp1:(Zr t w).2=(Kk x1).2:=by
  exact Jpz ‹_› ‹_›
 refine ZR (Zp (Lr:=Lr) [[Sg b 0 (KK t a_0 c_0 a_1 c_1 a_9 c_9)],r_9] hl1 ?_)
 rw [hp1];exact ⟨hne1,rfl,rfl⟩
 obtain ⟨_,rfl,rfl⟩:=hp
 refine Ja [0] [(5,I ((Kk x1).1))] (Jd (Jb (Je (Jc (Ja [0] [(17,Pt b 0)] (Jx 1 (Jx 1 (QJ (Ls:=[[Sg b 0 (KK t a_0 c_0 a_1 c_1 a_9 c_9)],r_9]) (Lr:=Lr) 18 hT (JmT G1 b t a_0 c_0 a_1 c_1 a_9 c_9 r_9 (h_0.mono hl1) (h_1.mono hl1) h_2 h_3 h_4 h_5 h_6 h_7 h_8 (h_9.mono hl1) ‹_›) (fun v G2 L1 hl2 hp=>?_) (fun v G2 L1 hl2 hp=>?_)))))))))
 obtain ⟨hne2,rfl,rfl⟩:=hp
 refine KJ ?_
 have hp3:(Zr t w).2=(JB t.setup t.deeds).2.2:=by
  exact JpA ‹_› ‹_› ‹_›
 refine ZR (Zp (Lr:=Lr) [[Sg b 0 (KK t a_0 c_0 a_1 c_1 a_9 c_9)],r_9] (Jp.le_trans hl1 hl2) ?_)
 rw [hp3];exact ⟨hne2,rfl,rfl⟩
 obtain ⟨_,a1,c1,a2,c2,a3,c3,a4,c4,a5,c5,a6,c6,a7,c7,rfl,w2,hs1,w3,w4,w5,hs2,hs3,_,_,_,_,_,rfl⟩:=hp
 refine Ja [0,0,0] [(19,(Jaw (JB t.setup t.deeds).1 a1 c1 a2 c2 a3 c3 a4 c4 a5 c5 a6 c6)),(20,Sl a7 (((JB t.setup t.deeds).2.1).length) c7)] (Jv 6 #[I 0,Sl none 0 0,I 0,I 0,I 0,Sl none 0 0,Sl none 0 0,Sl none 0 0,Sl none 0 0,I 0,Sl none 0 0] 67 (fun b2=>JV [3,0] [] ([Sg b2 0 (VP (JB t.setup t.deeds).1 a1 c1 a2 c2 a3 c3 a4 c4 a5 c5 a6 c6)]::[Sg b 0 (KK t a_0 c_0 a_1 c_1 a_9 c_9)]::r_9::Lr) (Jd (Jb ?_))))
 obtain ⟨x2,hx2⟩:=We (l:=w) (k:=0) (by omega)
 obtain ⟨_,⟨rfl,w7⟩,hc2⟩:=RS.get (h_w.mono (Jp.le_trans hl1 hl2)) hx2
 refine Yv (σ:=Nat×(Option Addr)×Nat×(Option Addr)×Nat×Jp) (fun q_=>(Jp.le G2 q_.2.2.2.2.2)∧(rI (((JJ (((JB t.setup t.deeds).1).clerk) x2 ((Kk x1).1)).1).head.epoch))∧(rU (((JJ (((JB t.setup t.deeds).1).clerk) x2 ((Kk x1).1)).1).head.root))∧(rU (((JJ (((JB t.setup t.deeds).1).clerk) x2 ((Kk x1).1)).1).head.prev))∧(rI (((JJ (((JB t.setup t.deeds).1).clerk) x2 ((Kk x1).1)).1).head.at_))∧((((JJ (((JB t.setup t.deeds).1).clerk) x2 ((Kk x1).1)).1).proof.name).length≤140737488351232)∧(RS QA q_.2.2.2.2.2 q_.2.1 q_.2.2.1 (((JJ (((JB t.setup t.deeds).1).clerk) x2 ((Kk x1).1)).1).proof.entries))∧(RS EU q_.2.2.2.2.2 q_.2.2.2.1 q_.2.2.2.2.1 (((JJ (((JB t.setup t.deeds).1).clerk) x2 ((Kk x1).1)).1).proof.sides))) (fun q_=>[(8,Pt q_.1 0),(9,I ((JJ (((JB t.setup t.deeds).1).clerk) x2 ((Kk x1).1)).2))]) (fun q_=>q_.2.2.2.2.2) (fun q_=>([Sg q_.1 0 (Wp (JJ (((JB t.setup t.deeds).1).clerk) x2 ((Kk x1).1)).1 q_.2.1 q_.2.2.1 q_.2.2.2.1 q_.2.2.2.2.1)]::[Sg b2 0 (VP (JB t.setup t.deeds).1 a1 c1 a2 c2 a3 c3 a4 c4 a5 c5 a6 c6)]::[Sg b 0 (KK t a_0 c_0 a_1 c_1 a_9 c_9)]::r_9::Lr)) ?_ (fun q_ hs=>?_)
 refine Ko [6,10,11] (Wm [(0,Pt b2 0),(1,(Qz (JB t.setup t.deeds).1.clerk a1 c1 a2 c2 a3 c3)),(2,Sl (At b1 o1) w.length c_w),(3,Pt b1 (o1+0*1)),(4,Sr x2),(5,I ((Kk x1).1))] (JK [] [(0,0),(1,2),(2,0),(5,0)] [3,4] [6,10] (Ke ?_ (Ke ?_ K4)) (Ke ?_ (Ke ?_ K4))))
 refine Jr 3 25 (Pt b1 (o1+0*1)) [(24,Sl (At b1 o1) w.length c_w)] (fun X=>?_)
 exact J3 (b:=b1) (off:=o1) (len:=w.length) (cap:=c_w) (ik:=.i64) 25 9 1 0 J7 Jn
 refine Jr 4 26 (Sr x2) [(25,Pt b1 (o1+0*1))] (fun X=>?_)
 exact JW 26 9 (cs:=[Sr x2]) 0 (Sr x2) hc2 Jn
 refine JD 6 [(23,(Qz (JB t.setup t.deeds).1.clerk a1 c1 a2 c2 a3 c3)),(26,Sr x2),(27,I ((Kk x1).1))] (fun X=>?_)
 refine JF 28 (VC G2 (KU (JB t.setup t.deeds).1.clerk a1 c1 a2 c2 a3 c3) (((JB t.setup t.deeds).1).clerk) (⟨a1,c1,a2,c2,a3,c3,rfl,w2,hs1,w3,w4,w5,hs2,hs3⟩) x2 w7 ((Kk x1).1) (by have q_:=Vr x1;omega)) (fun v G3 L1 hl3 hp=>?_)
 obtain ⟨a8,c8,a9,c9,rfl,w8,w9,w10,w11,w12,hs8,hs9,rfl⟩:=hp
 refine JC [(6,.tuple #[(Q9 (JJ (((JB t.setup t.deeds).1).clerk) x2 ((Kk x1).1)).1 a8 c8 a9 c9),I ((JJ (((JB t.setup t.deeds).1).clerk) x2 ((Kk x1).1)).2)]),(7,.tuple #[(Q9 (JJ (((JB t.setup t.deeds).1).clerk) x2 ((Kk x1).1)).1 a8 c8 a9 c9),I ((JJ (((JB t.setup t.deeds).1).clerk) x2 ((Kk x1).1)).2)]),(8,(Q9 (JJ (((JB t.setup t.deeds).1).clerk) x2 ((Kk x1).1)).1 a8 c8 a9 c9)),(9,I ((JJ (((JB t.setup t.deeds).1).clerk) x2 ((Kk x1).1)).2))] (JK [0,1,2,3,4,5] [(7,0),(8,0),(9,0)] [] [10] (List.forall_mem_nil _) (Ke ?_ K4))
 refine JD 10 [] (fun X=>?_)
 refine Jv 8 #[I 0,U 0,U 0,I 0,Sr ([]),Sl none 0 0,Sl none 0 0] 49 (fun b3=>JC [(10,Pt b3 0)] (JK [0,1,2,3,4,5] [(7,0),(8,0),(9,0)] [] [11] (List.forall_mem_nil _) (Ke ?_ K4)))
 refine JD 11 [(8,Pt b3 0),(29,(Q9 (JJ (((JB t.setup t.deeds).1).clerk) x2 ((Kk x1).1)).1 a8 c8 a9 c9))] (fun X=>?_)
 exact KL 0 ([Sg b3 0 (Wp (JJ (((JB t.setup t.deeds).1).clerk) x2 ((Kk x1).1)).1 a8 c8 a9 c9)]::[Sg b2 0 (VP (JB t.setup t.deeds).1 a1 c1 a2 c2 a3 c3 a4 c4 a5 c5 a6 c6)]::[Sg b 0 (KK t a_0 c_0 a_1 c_1 a_9 c_9)]::r_9::Lr) (Kc [(12,I ((JJ (((JB t.setup t.deeds).1).clerk) x2 ((Kk x1).1)).2))] (Km [0,1,2,3,4,5,7,8] [(9,0),(12,0)] [] [(8,Pt b3 0),(9,I ((JJ (((JB t.setup t.deeds).1).clerk) x2 ((Kk x1).1)).2))] (List.forall_mem_nil _) (Wb (b3,a8,c8,a9,c9,G3) ⟨hl3,w8,w9,w10,w11,w12,hs8,hs9⟩)))
 refine JD 10 [] (fun X=>?_)
 refine Jv 8 #[I 0,U 0,U 0,I 0,Sr ([]),Sl none 0 0,Sl none 0 0] 49 (fun b4=>JC [(10,Pt b4 0)] (JK [] [(0,0),(1,4),(2,0),(5,0)] [3,4] [6] (Ke ?_ (Ke ?_ K4)) (Ke ?_ K4)))
 refine Jr 3 25 (Pt b1 (o1+0*1)) [(24,Sl (At b1 o1) w.length c_w)] (fun X=>?_)
 exact J3 (b:=b1) (off:=o1) (len:=w.length) (cap:=c_w) (ik:=.i64) 25 9 1 0 J7 Jn
 refine Jr 4 26 (Sr x2) [(25,Pt b1 (o1+0*1))] (fun X=>?_)
 exact JW 26 9 (cs:=[Sr x2]) 0 (Sr x2) hc2 Jn
 refine JD 6 [(23,(Qz (JB t.setup t.deeds).1.clerk a1 c1 a2 c2 a3 c3)),(26,Sr x2),(27,I ((Kk x1).1))] (fun X=>?_)
 refine JF 28 (VC G2 (KU (JB t.setup t.deeds).1.clerk a1 c1 a2 c2 a3 c3) (((JB t.setup t.deeds).1).clerk) (⟨a1,c1,a2,c2,a3,c3,rfl,w2,hs1,w3,w4,w5,hs2,hs3⟩) x2 w7 ((Kk x1).1) (by have q_:=Vr x1;omega)) (fun v G4 L1 hl4 hp=>?_)
 obtain ⟨a10,c10,a11,c11,rfl,w13,w14,w15,w16,w17,hs10,hs11,rfl⟩:=hp
 refine JC [(6,.tuple #[(Q9 (JJ (((JB t.setup t.deeds).1).clerk) x2 ((Kk x1).1)).1 a10 c10 a11 c11),I ((JJ (((JB t.setup t.deeds).1).clerk) x2 ((Kk x1).1)).2)]),(7,.tuple #[(Q9 (JJ (((JB t.setup t.deeds).1).clerk) x2 ((Kk x1).1)).1 a10 c10 a11 c11),I ((JJ (((JB t.setup t.deeds).1).clerk) x2 ((Kk x1).1)).2)]),(8,(Q9 (JJ (((JB t.setup t.deeds).1).clerk) x2 ((Kk x1).1)).1 a10 c10 a11 c11)),(9,I ((JJ (((JB t.setup t.deeds).1).clerk) x2 ((Kk x1).1)).2))] (JK [0,1,2,3,4,5] [(7,0),(8,0),(9,0)] [] [11] (List.forall_mem_nil _) (Ke ?_ K4))
 refine JD 11 [(8,Pt b4 0),(29,(Q9 (JJ (((JB t.setup t.deeds).1).clerk) x2 ((Kk x1).1)).1 a10 c10 a11 c11))] (fun X=>?_)
 exact KL 0 ([Sg b4 0 (Wp (JJ (((JB t.setup t.deeds).1).clerk) x2 ((Kk x1).1)).1 a10 c10 a11 c11)]::[Sg b2 0 (VP (JB t.setup t.deeds).1 a1 c1 a2 c2 a3 c3 a4 c4 a5 c5 a6 c6)]::[Sg b 0 (KK t a_0 c_0 a_1 c_1 a_9 c_9)]::r_9::Lr) (Kc [(12,I ((JJ (((JB t.setup t.deeds).1).clerk) x2 ((Kk x1).1)).2))] (Km [0,1,2,3,4,5,7,8] [(9,0),(12,0)] [] [(8,Pt b4 0),(9,I ((JJ (((JB t.setup t.deeds).1).clerk) x2 ((Kk x1).1)).2))] (List.forall_mem_nil _) (Wb (b4,a10,c10,a11,c11,G4) ⟨hl4,w13,w14,w15,w16,w17,hs10,hs11⟩)))
 obtain ⟨b3,a8,c8,a9,c9,G3⟩:=q_
 obtain ⟨hle1,hj1,hj2,hj3,hj4,hj5,hj6,hj7⟩:=hs
 dsimp only at hle1 hj1 hj2 hj3 hj4 hj5 hj6 hj7
 dsimp only
 refine Je (Jc (Ja [0] [(31,I ((JJ (((JB t.setup t.deeds).1).clerk) x2 ((Kk x1).1)).2))] (QJ (Ls:=[]) (Lr:=([Sg b3 0 (Wp (JJ (((JB t.setup t.deeds).1).clerk) x2 ((Kk x1).1)).1 a8 c8 a9 c9)]::[Sg b2 0 (VP (JB t.setup t.deeds).1 a1 c1 a2 c2 a3 c3 a4 c4 a5 c5 a6 c6)]::[Sg b 0 (KK t a_0 c_0 a_1 c_1 a_9 c_9)]::r_9::Lr)) 32 hT ((Z6 G3 ((JJ (((JB t.setup t.deeds).1).clerk) x2 ((Kk x1).1)).2)).frame) (fun v G5 L1 hl5 hp=>?_) (fun v G5 L1 hl5 hp=>?_))))
 obtain ⟨hne3,rfl,rfl⟩:=hp
 refine KJ ?_
 have hp5:(Zr t w).2=(JJ (((JB t.setup t.deeds).1).clerk) x2 ((Kk x1).1)).2:=by
  exact JpB ‹_› ‹_› ‹_› ‹_› ‹_›
 refine ZR (Zp (Lr:=Lr) [[Sg b 0 (KK t a_0 c_0 a_1 c_1 a_9 c_9)],r_9] (Jp.le_trans (Jp.le_trans (Jp.le_trans hl1 hl2) hle1) hl5) ?_)
 rw [hp5];exact ⟨hne3,rfl,rfl⟩
 obtain ⟨_,rfl,rfl⟩:=hp
 refine Jd (Jb (Je (Jc (Ja [2] [(34,(Q9 (JJ (((JB t.setup t.deeds).1).clerk) x2 ((Kk x1).1)).1 a8 c8 a9 c9))] (JF 35 (YZ G5 (Wp (JJ (((JB t.setup t.deeds).1).clerk) x2 ((Kk x1).1)).1 a8 c8 a9 c9) ((JJ (((JB t.setup t.deeds).1).clerk) x2 ((Kk x1).1)).1) (⟨a8,c8,a9,c9,rfl,hj1,hj2,hj3,hj4,hj5,(hj6.mono hl5),(hj7.mono hl5)⟩)) (fun v G6 L1 hl6 hp=>?_))))))
 obtain ⟨rfl,w18,rfl⟩:=hp
 refine Ja [0,0,0,0,0,0,0] [(9,I ((Jq ((JJ (((JB t.setup t.deeds).1).clerk) x2 ((Kk x1).1)).1)).2.2)),(10,Sr ((Jq ((JJ (((JB t.setup t.deeds).1).clerk) x2 ((Kk x1).1)).1)).1)),(11,Bo ((Jq ((JJ (((JB t.setup t.deeds).1).clerk) x2 ((Kk x1).1)).1)).2.1))] (Jd (Jb (Je (Jc (Ja [0] [(39,I ((Jq ((JJ (((JB t.setup t.deeds).1).clerk) x2 ((Kk x1).1)).1)).2.2))] (QJ (Ls:=[]) (Lr:=([Sg b3 0 (Wp (JJ (((JB t.setup t.deeds).1).clerk) x2 ((Kk x1).1)).1 a8 c8 a9 c9)]::[Sg b2 0 (VP (JB t.setup t.deeds).1 a1 c1 a2 c2 a3 c3 a4 c4 a5 c5 a6 c6)]::[Sg b 0 (KK t a_0 c_0 a_1 c_1 a_9 c_9)]::r_9::Lr)) 40 hT ((Z6 G6 ((Jq ((JJ (((JB t.setup t.deeds).1).clerk) x2 ((Kk x1).1)).1)).2.2)).frame) (fun v G7 L1 hl7 hp=>?_) (fun v G7 L1 hl7 hp=>?_)))))))
 obtain ⟨hne4,rfl,rfl⟩:=hp
 refine KJ ?_
 have hp7:(Zr t w).2=(Jq ((JJ (((JB t.setup t.deeds).1).clerk) x2 ((Kk x1).1)).1)).2.2:=by
  exact JpC ‹_› ‹_› ‹_› ‹_› ‹_› ‹_›
 refine ZR (Zp (Lr:=Lr) [[Sg b 0 (KK t a_0 c_0 a_1 c_1 a_9 c_9)],r_9] (Jp.le_trans (Jp.le_trans (Jp.le_trans (Jp.le_trans (Jp.le_trans hl1 hl2) hle1) hl5) hl6) hl7) ?_)
 rw [hp7];exact ⟨hne4,rfl,rfl⟩
 obtain ⟨_,rfl,rfl⟩:=hp
 refine Jd (Jb (Je (Jf [0,0] [(42,Bo (!((Jq ((JJ (((JB t.setup t.deeds).1).clerk) x2 ((Kk x1).1)).1)).2.1)))] (Jk (!((Jq ((JJ (((JB t.setup t.deeds).1).clerk) x2 ((Kk x1).1)).1)).2.1)) (fun h1=>?_) (fun h1=>?_)))))
 refine Je (Jc (Kq 43 1 #[Sr ([45])] 9 (fun b5=>Ja [0] [(4,Sl (At b5 0) 1 1)] (Jd (Jb (Jl (Jh (JeX (b:=b5) (o:=0) (cs:=[Sr ([45])]) 0 (fun G8 hl8 hz1=>?_)))))))))
 have hs12:RS ES G8 (At b5 0) 1 [[45]]:=RS.lit [[Sr ([45])]] [[45]] ⟨⟨rfl,(Nat.le_of_ble_eq_true rfl)⟩,trivial⟩ hz1 (Nat.le_of_ble_eq_true rfl) (Nat.le_of_ble_eq_true rfl)
 refine Ji 4 (Ji 4 ?_)
 have hf1:(Zr t w).2=0∧(Zr t w).1=[[45]]:=by
  (have q_:=JpD (t:=t) (w:=w) ‹_› ‹_› ‹_› ‹_› ‹_› ‹_› ‹_›;rw [q_];exact ⟨rfl,rfl⟩)
 refine Jm [0] [Sl (At b5 0) 1 1] (bpx (KQ (Lr:=Lr) [[Sg b 0 (KK t a_0 c_0 a_1 c_1 a_9 c_9)],r_9] (Jp.le_trans (Jp.le_trans (Jp.le_trans (Jp.le_trans (Jp.le_trans (Jp.le_trans hl1 hl2) hle1) hl5) hl6) hl7) hl8) ?_))
 rw [hf1.2]
 try dsimp only
 exact ⟨hf1.1,(At b5 0),1,rfl,hs12,rfl⟩
 refine Jo (Jb (Je (Jc (Ja [0] [(44,Sr ((Jq ((JJ (((JB t.setup t.deeds).1).clerk) x2 ((Kk x1).1)).1)).1))] (Kq 45 2 #[Sr ([43]),Sr ((Jq ((JJ (((JB t.setup t.deeds).1).clerk) x2 ((Kk x1).1)).1)).1)] 9 (fun b6=>Ja [0] [(4,Sl (At b6 0) 2 2)] (Jd (Jb (Jl (JeX (b:=b6) (o:=0) (cs:=[Sr ([43]),Sr ((Jq ((JJ (((JB t.setup t.deeds).1).clerk) x2 ((Kk x1).1)).1)).1)]) 0 (fun G9 hl9 hz2=>?_)))))))))))
 have hs13:RS ES G9 (At b6 0) 2 [[43],(Jq ((JJ (((JB t.setup t.deeds).1).clerk) x2 ((Kk x1).1)).1)).1]:=RS.lit [[Sr ([43])],[Sr ((Jq ((JJ (((JB t.setup t.deeds).1).clerk) x2 ((Kk x1).1)).1)).1)]] [[43],(Jq ((JJ (((JB t.setup t.deeds).1).clerk) x2 ((Kk x1).1)).1)).1] ⟨⟨rfl,(Nat.le_of_ble_eq_true rfl)⟩,⟨⟨rfl,w18⟩,trivial⟩⟩ hz2 (Nat.le_of_ble_eq_true rfl) (Nat.le_of_ble_eq_true rfl)
 refine Ji 4 (Ji 4 ?_)
 have hf2:(Zr t w).2=0∧(Zr t w).1=[[43],(Jq ((JJ (((JB t.setup t.deeds).1).clerk) x2 ((Kk x1).1)).1)).1]:=by
  (have q_:=JpE (t:=t) (w:=w) ‹_› ‹_› ‹_› ‹_› ‹_› ‹_› ‹_›;rw [q_];exact ⟨rfl,rfl⟩)
 refine Jm [0] [Sl (At b6 0) 2 2] (bpx (KQ (Lr:=Lr) [[Sg b 0 (KK t a_0 c_0 a_1 c_1 a_9 c_9)],r_9] (Jp.le_trans (Jp.le_trans (Jp.le_trans (Jp.le_trans (Jp.le_trans (Jp.le_trans hl1 hl2) hle1) hl5) hl6) hl7) hl9) ?_))
 rw [hf2.2]
 try dsimp only
 exact ⟨hf2.1,(At b6 0),2,rfl,hs13,rfl⟩
def bump (m:List Int) (k:Nat):List Int:=m.set k (m[k]?.getD 0+1)
def JhU (m:List Int) (x:Jae):List Int:=if x.kind=2 then bump (bump m (x.kind-1).toNat) (3+x.n).toNat else bump m (x.kind-1).toNat
def evAll (l:List Jae):List Int:=l.foldl JhU (List.replicate 10 0)
def EvI (n:Nat) (m:List Int):Prop:=m.length=10∧∀ c∈m,0≤c∧c≤n
theorem EvI.bump {n:Nat} {m:List Int} (h:EvI n m) (k:Nat):EvI (n+1) (bump m k):=by
 refine ⟨by simp [Go.Proofs.YteaampgpgokjmaaGreatDoor.bump,h.1],fun c hc=>?_⟩
 unfold Go.Proofs.YteaampgpgokjmaaGreatDoor.bump at hc
 rcases List.mem_or_eq_of_mem_set hc with hc | hc
 · have:=h.2 c hc;omega
 ·
  rw [hc]
  cases hk:m[k]? with
  | none=>simp;omega
  | some v=>have:=h.2 v (List.mem_of_getElem? hk);simp;omega
theorem Jjv {n n':Nat} {m:List Int} (h:EvI n m) (hn:n≤n'):EvI n' m:=⟨h.1,fun c hc=>by have:=h.2 c hc;omega⟩
theorem EvI.start:EvI 0 (List.replicate 10 0):=⟨by simp,fun c hc=>by have:=List.eq_of_mem_replicate hc;omega⟩
def Jdt (t:KO) (w:List (List UInt8)):List (List UInt8)×Int:=if ¬ (JB t.setup t.deeds).2.2=0 then ([],(JB t.setup t.deeds).2.2) else ((evAll (JB t.setup t.deeds).2.1).map Lib.itoa,0)
theorem YP.mono {P:Program} {f:FuncId} {args:Array Value} {G:Jp} {Ls:List (List Kg)} {Post PP Post' PP':Value→Jp→List (List Kg)→Prop} (h:YP P f args G Ls Post PP) (h1:∀ v G' L',Jp.le G G'→Post v G' L'→Post' v G' L') (h2:∀ v G' L',PP v G' L'→PP' v G' L'):YP P f args G Ls Post' PP':=fun Lr w0 G0 w hT hw =>
 (h Lr w0 G0 w hT hw).mono fun _ _ ⟨v,G',L',a,b,c⟩=>⟨v,G',L',a,b,c.imp (fun ⟨q,L1,e,p⟩=>⟨q,L1,e,h1 _ _ _ b p⟩) (fun ⟨q,L1,e,p⟩=>⟨q,L1,e,h2 _ _ _ p⟩)⟩
def QF (c:Nat) (t:KO) (w:List (List UInt8)):KO×List (List UInt8)×Int:=match c with
 | 0=>((JoK t w).1,[],(JoK t w).2)
 | 1=>((JoL t w).1,[],(JoL t w).2)
 | 2=>((JkC t w).1,[],(JkC t w).2)
 | 3=>((Wo t w).1,[],(Wo t w).2)
 | 4=>((Zk t w).1,[],(Zk t w).2)
 | 5=>((JoM t w).1,[],(JoM t w).2)
 | 6=>((Zl t w).1,[],(Zl t w).2)
 | 7=>(t,(dNow t w).1,(dNow t w).2)
 | 8=>(t,(Zr t w).1,(Zr t w).2)
 | 9=>(t,(Jdt t w).1,(Jdt t w).2)
 | 10=>(t,(Jju t w).1,(Jju t w).2)
 | 11=>(t,(Jjt t w).1,(Jjt t w).2)
 | _=>(t,[],0)
def dS (c:Nat):Bool:=[3,4,6,8,12].contains c
def JkE (t:KO) (G:Jp) (b:Nat) (L:List (List Kg)):Prop:=∃ (a_0:Option Addr) (c_0:Nat) (a_1:Option Addr) (c_1:Nat) (a_9:Option Addr) (c_9:Nat) (r_9:List Kg),(RS ES G a_0 c_0 t.setup.names)∧(RS EU G a_1 c_1 t.setup.keys)∧(-9223372036854775808≤t.setup.most∧t.setup.most<9223372036854775808)∧(-9223372036854775808≤t.setup.batch∧t.setup.batch<9223372036854775808)∧(-9223372036854775808≤t.setup.every∧t.setup.every<9223372036854775808)∧(-9223372036854775808≤t.setup.least∧t.setup.least<9223372036854775808)∧(-9223372036854775808≤t.setup.top∧t.setup.top<9223372036854775808)∧(-9223372036854775808≤t.setup.lost∧t.setup.lost<9223372036854775808)∧(-9223372036854775808≤t.setup.reach∧t.setup.reach<9223372036854775808)∧(J0 WW G a_9 c_9 t.deeds r_9)∧L=[[Sg b 0 [Sl a_0 t.setup.names.length c_0,Sl a_1 t.setup.keys.length c_1,I t.setup.most,I t.setup.batch,I t.setup.every,I t.setup.least,I t.setup.top,I t.setup.lost,I t.setup.reach,Sl a_9 t.deeds.length c_9]],r_9]
theorem Je2 (c:Nat) (hc:c<12) (hS:dS c=true) (G:Jp) (b:Nat) (t:KO) (L:List (List Kg)) (hB:JkE t G b L) (ht:t.deeds.length≤200) (hn:t.setup.names.length≤1000) (hk:t.setup.keys.length≤1000) (a_w:Option Addr) (c_w:Nat) (w:List (List UInt8)) (h_w:RS ES G a_w c_w w) (hw:0≤Yt c→(w.length:Int)=Yt c) (hw2:w.length≤1048577) (hs:∀ s∈w,s.length≤1048576) :
  YP Tryz.prog (VL c) #[Pt b 0,Sl a_w w.length c_w] G L (fun u G' L'=>(QF c t w).2.2=0∧∃ a1 c2,u=Sl a1 (QF c t w).2.1.length c2∧RS ES G' a1 c2 (QF c t w).2.1∧JkE (QF c t w).1 G' b L') (fun u _ L'=>¬ (QF c t w).2.2=0∧u=JaB (QF c t w).2.2∧L'=L):=by
 obtain ⟨a_0,c_0,a_1,c_1,a_9,c_9,r_9,h_0,h_1,h_2,h_3,h_4,h_5,h_6,h_7,h_8,h_9,rfl⟩:=hB
 match c,hc with
 | 0,_=>exact absurd hS (by decide)
 | 1,_=>exact absurd hS (by decide)
 | 2,_=>exact absurd hS (by decide)
 | 3,_=>exact YP.mono (JkD G b t a_0 c_0 a_1 c_1 a_9 c_9 r_9 h_0 h_1 h_2 h_3 h_4 h_5 h_6 h_7 h_8 h_9 a_w c_w w h_w (by have q_:=hw (by decide);simp only [Yt,List.getElem?_cons_zero,List.getElem?_cons_succ,Option.getD_some] at q_;omega) hs ht hn hk) (fun u G' L' hle ⟨he,a1,c2,a3,c4,a5,c6,a7,c8,r9,hu,ho,hB⟩=>⟨he,a1,c2,hu,ho,a3,c4,a5,c6,a7,c8,r9,hB⟩) (fun _ _ _ h=>h)
 | 4,_=>exact YP.mono (JmR G b t a_0 c_0 a_1 c_1 a_9 c_9 r_9 h_0 h_1 h_2 h_3 h_4 h_5 h_6 h_7 h_8 h_9 a_w c_w w h_w (by have q_:=hw (by decide);simp only [Yt,List.getElem?_cons_zero,List.getElem?_cons_succ,Option.getD_some] at q_;omega) hs ht hn hk) (fun u G' L' hle ⟨he,a1,c2,a3,c4,a5,c6,a7,c8,r9,hu,ho,hB⟩=>⟨he,a1,c2,hu,ho,a3,c4,a5,c6,a7,c8,r9,hB⟩) (fun _ _ _ h=>h)
 | 5,_=>exact absurd hS (by decide)
 | 6,_=>exact YP.mono (JmS G b t a_0 c_0 a_1 c_1 a_9 c_9 r_9 h_0 h_1 h_2 h_3 h_4 h_5 h_6 h_7 h_8 h_9 a_w c_w w h_w (by have q_:=hw (by decide);simp only [Yt,List.getElem?_cons_zero,List.getElem?_cons_succ,Option.getD_some] at q_;omega) hs ht hn hk) (fun u G' L' hle ⟨he,a1,c2,a3,c4,a5,c6,a7,c8,r9,hu,ho,hB⟩=>⟨he,a1,c2,hu,ho,a3,c4,a5,c6,a7,c8,r9,hB⟩) (fun _ _ _ h=>h)
 | 7,_=>exact absurd hS (by decide)
 | 8,_=>exact YP.mono (JmU G b t a_0 c_0 a_1 c_1 a_9 c_9 r_9 h_0 h_1 h_2 h_3 h_4 h_5 h_6 h_7 h_8 h_9 a_w c_w w h_w (by have q_:=hw (by decide);simp only [Yt,List.getElem?_cons_zero,List.getElem?_cons_succ,Option.getD_some] at q_;omega) hs ht) (fun u G' L' hle ⟨he,a1,c2,hu,ho,hB⟩=>⟨he,a1,c2,hu,ho,a_0,c_0,a_1,c_1,a_9,c_9,r_9,h_0.mono hle,h_1.mono hle,h_2,h_3,h_4,h_5,h_6,h_7,h_8,h_9.mono hle,hB⟩) (fun _ _ _ h=>h)
 | 9,_=>exact absurd hS (by decide)
 | 10,_=>exact absurd hS (by decide)
 | 11,_=>exact absurd hS (by decide)
theorem JpF {P:Program} {n:Nat} {w0:World} {G0 G:Jp} {fn:Func} {c₀:Frame} {cs:List Frame} {u:FrameMode} {R:Ending→FrameMode→World→Prop} {fr:List (Nat×Value)} {L:List (List Kg)} (hr:fn.results=#[]) (hR:∀ w,St w0 G0 w G L→R (.returned (.tuple #[])) u w) :
  TQ ⟨P,n,[],w0,G0⟩ (fun e a w=>bodyPostS P fn c₀ cs R e a ({ c₀ with mode:=u }::cs) w) .normal fr G L:=fun a w ha hw=>⟨ha.defers,u,rfl,_,results_none hr _ _ _,hR w hw⟩
theorem JlD {P:Program} {n:Nat} {w0:World} {G0 G:Jp} {fn:Func} {R:Ending→World→Prop} {fr:List (Nat×Value)} {L:List (List Kg)} {fv:Fn} {cap dargs:Array Value} {f:FuncId} {args:Array Value} (is:List Nat) (vs:List Value)
  (hi:∀ w,(invoke (.fn fv cap) dargs).run P w=.ok (.enter f args) w)
  (hD:∀ w,St w0 G0 w G L→CallsD P f args .returning w fun e u' w'=>e=.returned (.tuple #[])∧u'=.returning∧St w0 G0 w' G L)
  (hR:∀ w,St w0 G0 w G L→R (.returned (Ql vs)) w)
  (h:(fn.results.toList.length,fn.results.toList.length,(fn.results.toList.zip is).map (Jh1 P fr L))=(is.length,vs.length,((fn.results.toList.zip is).zip vs).map (Jh2 L)):=by as_aux_lemma=>kernel_rfl) :
  TQ ⟨P,n,[{ target:=.fn fv cap,args:=dargs }],w0,G0⟩ (bodyPostD P fn R) .ret fr G L:=fun a w ha hw=>by
 show Leaves P fn a.tmps R a.defers .returning w
 rw [ha.defers]
 refine leaves_cons (f:=f) (args:=args) (by simp) (hi w) ((hD w hw).mono ?_)
 rintro e u' w' ⟨rfl,rfl,hw'⟩
 exact ⟨Ql vs,VR (a:=a) ⟨ha.size,ha.defers,ha.slot⟩ hw' fn is vs h,hR w' hw'⟩
theorem Jb7 {P:Program} {n:Nat} {w0:World} {G0 G:Jp} {fn:Func} {R:Ending→World→Prop} {fr:List (Nat×Value)} {L:List (List Kg)} (L':List (List Kg)) {fv:Fn} {cap dargs:Array Value} {f:FuncId} {args:Array Value} {v:Value} (is:List Nat) (vs:List Value)
  (hi:∀ w,(invoke (.fn fv cap) dargs).run P w=.ok (.enter f args) w)
  (hD:∀ w,St w0 G0 w G L→CallsD P f args (.panicking (Jfb v)) w fun e u' w'=>e=.returned (.tuple #[])∧u'=.panicking [{ v:=v,recovered:=true }]∧St w0 G0 w' G L')
  (hR:∀ w,St w0 G0 w G L'→R (.returned (Ql vs)) w)
  (h:(fn.results.toList.length,fn.results.toList.length,(fn.results.toList.zip is).map (Jh1 P fr L'))=(is.length,vs.length,((fn.results.toList.zip is).zip vs).map (Jh2 L')):=by as_aux_lemma=>kernel_rfl) :
  TQ ⟨P,n,[{ target:=.fn fv cap,args:=dargs }],w0,G0⟩ (bodyPostD P fn R) (.panic (Jfb v)) fr G L:=fun a w ha hw=>by
 show Leaves P fn a.tmps R a.defers (.panicking (Jfb v)) w
 rw [ha.defers]
 refine leaves_cons (f:=f) (args:=args) (by simp) (hi w) ((hD w hw).mono ?_)
 rintro e u' w' ⟨rfl,rfl,hw'⟩
 exact ⟨Ql vs,VR (a:=a) ⟨ha.size,ha.defers,ha.slot⟩ hw' fn is vs h,hR w' hw'⟩
theorem JpG {P:Program} {f:FuncId} {args:Array Value} {G:Jp} {L:List (List Kg)} {Post PP:Value→Jp→List (List Kg)→Prop} {fn:Func} {c:Code}
  (hf:P.funcs[f]? = some fn) (n:Nat) (fr:List (Nat×Value)) (hb:fn.body=some c)
  (h:∀ w0 G0,TW P w0→TC ⟨P,n,[],w0,G0⟩ c (bodyPostD P fn (BPX w0 G0 G Post PP)) fr G L)
  (hn:fn.ntmps=n:=by rfl) (ha:Nat.ble args.size n=true:=by rfl)
  (hfr:(fr.map fun p=>args[p.1]?)=fr.map fun p=>some p.2:=by as_aux_lemma=>kernel_rfl):JaD P f args G L Post PP:=fun w0 G0 w hT hw =>
 calls_of_wp_defers hf hb (h w0 G0 hT _ w (by rw [hn];exact Je5 fr hfr (Nat.le_of_ble_eq_true ha)) hw)
theorem Jb8 (G:Jp) (b:Nat) (e:Int) (x:List UInt8) (he:-9223372036854775808≤e∧e<9223372036854775808) (Lr:List (List Kg)) (w0:World) (G0:Jp) (w:World) (hT:TW Tryz.prog w0) (hw:St w0 G0 w G ([Sg b 0 [Sr x]]::Lr)) :
  CallsD Tryz.prog 45 #[Pt b 0] (.panicking (Jfb (JaB e))) w (fun en u' w'=>en=.returned (.tuple #[])∧u'=.panicking [{ v:=JaB e,recovered:=true }]∧St w0 G0 w' G ([Sg b 0 [Sr ([101,114,114,32]++Lib.itoa e)]]::Lr)):=by
 have hq_:=Je1 e he
 refine callsD_of_wpS Tryz.func45 rfl (fun c₀ cs hu=>?_)
 apply wpS_seq
 apply wpS_region
 rw [show List.range (Array.size _)=[0,1] from rfl]
 simp [wpOpsS,go_sem,recoverD,hu,Exit.thenS]
 refine wpS_of_wp ?_
 refine (show TC ⟨Tryz.prog,19,[],w0,G0⟩ _ _ [(0,Pt b 0),(1,JaB e)] G ([Sg b 0 [Sr x]]::Lr) from ?_) _ w ⟨by simp,rfl,fun t v h=>?_⟩ hw
 rotate_left
 ·
  obtain ⟨p,hp,rfl,rfl⟩:=Jbx h
  simp only [List.mem_cons,List.mem_nil_iff,or_false] at hp
  rcases hp with rfl | rfl <;> simp
 refine Jf [0,0] [(6,Bo true)] ?_
 refine JU ?_
 refine Je ?_
 refine Jc ?_
 refine Ja [0,0,0,0,0] [(10,.agg #[I e]),(11,Bo true)] ?_
 refine Jv 2 #[I 0] 122 (fun b1=>?_)
 refine JV [3,0] [(3,Bo true)] ([Sg b1 0 [I e]]::[Sg b 0 [Sr x]]::Lr) ?_
 refine Jd ?_
 refine Jb ?_
 refine Je ?_
 refine Jf [0,0] [(13,Bo false)] ?_
 refine Qq ?_
 refine Jo ?_
 refine Jb ?_
 refine Jc ?_
 refine Ja [0,2] [(16,I e)] ?_
 refine Jeg 17 (Sr (Lib.itoa e)) hT (Jil G e he) ?_
 refine ZF 18 ([101,114,114,32]) (Lib.itoa e) (by simp;omega) ?_
 refine JV [5] [] ([Sg b1 0 [I e]]::[Sg b 0 [Sr (([101,114,114,32])++(Lib.itoa e))]]::Lr) ?_
 refine Jd ?_
 refine QT ([Sg b 0 [Sr (([101,114,114,32])++(Lib.itoa e))]]::Lr) ?_
 exact JpF rfl (fun w hw=>⟨rfl,rfl,hw⟩)
theorem JlE (G:Jp) (b:Nat) (L:List (List Kg)) (w0:World) (G0:Jp) (w:World) (hw:St w0 G0 w G L) :
  CallsD Tryz.prog 45 #[Pt b 0] .returning w (fun en u' w'=>en=.returned (.tuple #[])∧u'=.returning∧St w0 G0 w' G L):=by
 refine callsD_of_wpS Tryz.func45 rfl (fun c₀ cs hu=>?_)
 apply wpS_seq
 apply wpS_region
 rw [show List.range (Array.size _)=[0,1] from rfl]
 simp [wpOpsS,go_sem,recoverD,hu,Exit.thenS]
 refine wpS_of_wp ?_
 refine (show TC ⟨Tryz.prog,19,[],w0,G0⟩ _ _ [(0,Pt b 0),(1,.nilIface)] G L from ?_) _ w ⟨by simp,rfl,fun t v h=>?_⟩ hw
 rotate_left
 ·
  obtain ⟨p,hp,rfl,rfl⟩:=Jbx h
  simp only [List.mem_cons,List.mem_nil_iff,or_false] at hp
  rcases hp with rfl | rfl <;> simp
 refine Jf [0,0] [(6,Bo false)] ?_
 refine Qq ?_
 refine Jo ?_
 exact fun a w ha hw=>⟨ha.defers,.returning,by rw [← hu],_,results_none rfl _ _ _,rfl,rfl,hw⟩
theorem JaC {C:Cx} {Q:Exit→Act→World→Prop} {fr:List (Nat×Value)} {G:Jp} {L:List (List Kg)} {ops:Array Oper} {rest:List Oper} {o:Oper} (d:Nat) {k:FuncId} {args:Array Value} {Ls Lr:List (List Kg)} {Post PP:Value→Jp→List (List Kg)→Prop} (hk:JaS C.P k) (hT:TW C.P C.w0) (hc:YP C.P k args G Ls Post PP)
  (hp:∀ v G' L1,Jp.le G G'→PP v G' L1→TQ C Q (.panic (Jfb v)) fr G' (L1++Lr))
  (h:∀ v G' L1,Jp.le G G'→Post v G' L1→Kt C ops Q rest ((d,v)::fr) G' (L1++Lr)) (hL:L=Ls++Lr:=by rfl)
  (hx:JcW fr o=some (k,args,#[]):=by as_aux_lemma=>kernel_rfl)
  (hw:Qk ops fr o=some true:=by rfl) (hd:o.dst=some d:=by rfl) (hn:Nat.blt d C.n=true:=by rfl) (hsel:Za o.op=false:=by rfl)
  (hcov:o.op.operands.toList.all (cov fr)=true:=by as_aux_lemma=>kernel_rfl):Kt C ops Q (o::rest) fr G L:=by
 refine QJ (f:=k) (args:=args) d hT hc hp h hL hw hd hn hsel hcov ?_
 intro w
 unfold JcW at hx
 split at hx
 case h_2=>cases hx
 rename_i t as_ ty hop
 split at hx
 case h_2=>cases hx
 rename_i k' caps' hv
 cases hx
 simp [execOp,hop,resolve,hv,Deferred.ofValue,invoke]
 exact hk _ _
theorem W2 (s:List UInt8):(JH s).length≤s.length+1:=by
 have h1:=Lib.splitB_all ⟨#[32]⟩ (by decide) 0 _ (B s) rfl
 have h2:=Lib.countB_le ⟨#[32]⟩ (by decide) (B s).size (B s) (Nat.le_refl _)
 have h3:=congrArg List.length (JbA s)
 rw [List.length_map,h1] at h3
 rw [Jg5] at h2
 omega
theorem JhV:∀ c,c<12→JaS Tryz.prog (VL c)
 | 0,_=>fun _ _=>by kernel_rfl
 | 1,_=>fun _ _=>by kernel_rfl
 | 2,_=>fun _ _=>by kernel_rfl
 | 3,_=>fun _ _=>by kernel_rfl
 | 4,_=>fun _ _=>by kernel_rfl
 | 5,_=>fun _ _=>by kernel_rfl
 | 6,_=>fun _ _=>by kernel_rfl
 | 7,_=>fun _ _=>by kernel_rfl
 | 8,_=>fun _ _=>by kernel_rfl
 | 9,_=>fun _ _=>by kernel_rfl
 | 10,_=>fun _ _=>by kernel_rfl
 | 11,_=>fun _ _=>by kernel_rfl
 | n+12,h=>by omega
theorem ev_len (s:KC) (l:List Qc):(JB s l).2.1.length≤64*200:=by
 by_cases h:(JB s l).2.2=0
 ·
  obtain ⟨h1,h2,h3⟩:=JhN h
  have hb:=V3 h1
  obtain ⟨_,b2,b3,b4⟩:=JbN h1
  obtain ⟨m,e,hm⟩:=(Joq l (t:=QH s) (by rw [b3];exact hb.1)).ev
  rw [h3]
  simp only
  rw [e]
  simp [QH] at hm ⊢
  omega
 · rw [Jor h];simp
theorem JlF:∀ (l:List Jae) (n:Nat) (m:List Int),EvI n m→EvI (n+2*l.length) (l.foldl JhU m)
 | [],n,m,h=>h
 | x::l,n,m,h=>by
  have h1:EvI (n+2) (JhU m x):=by
   unfold JhU
   split
   · exact (h.bump _).bump _
   · exact Jjv (h.bump _) (by omega)
  have:=JlF l (n+2) _ h1
  rw [List.length_cons]
  exact Jjv this (by omega)
def JaJ (l:List (List UInt8)):Prop:=l.length≤10∧∀ x∈l,x.length≤21
theorem WC:JaJ []:=⟨by simp,by simp⟩
theorem JcP {l:List Int} (h:l.length≤10) (h2:∀ n∈l,-9223372036854775808≤n∧n<9223372036854775808):JaJ (l.map Lib.itoa):=⟨by simpa using h,fun x hx=>by obtain ⟨n,hn,rfl⟩:=List.mem_map.1 hx;exact Je1 n (h2 n hn)⟩
theorem JfW (t:KO) (w:List (List UInt8)):JaJ (dNow t w).1:=by
 unfold dNow
 split
 · exact WC
 ·
  rename_i h
  have q:=Yc (JgU (Decidable.not_not.1 h)).1
  refine JcP (by simp) ?_
  intro n hn
  simp only [List.mem_cons,List.mem_nil_iff,or_false] at hn
  rcases hn with rfl | rfl | rfl <;> omega
theorem Jcs (t:KO) (w:List (List UInt8)):JaJ (Jdt t w).1:=by
 unfold Jdt
 split
 · exact WC
 ·
  have q:=JlF (JB t.setup t.deeds).2.1 0 _ EvI.start
  have q2:=ev_len t.setup t.deeds
  refine JcP (by rw [evAll,q.1];omega) fun n hn=>?_
  have:=q.2 n hn
  omega
theorem JeC (t:KO) (w:List (List UInt8)):JaJ (Jju t w).1:=by
 unfold Jju
 split
 · exact WC
 ·
  split
  · exact WC
  ·
   rename_i h
   split
   ·
    rename_i o ho
    have q:=K8.1 ((JgU (Decidable.not_not.1 h)).2.2.2.2.2.2.1 _ _ ho).1
    have q2:=Zb q.2.1
    refine JcP (by simp) ?_
    intro n hn
    simp only [List.mem_cons,List.mem_nil_iff,or_false] at hn
    rcases hn with rfl | rfl <;> omega
   · exact WC
theorem JeD (t:KO) (w:List (List UInt8)):JaJ (Jjt t w).1:=by
 unfold Jjt
 split
 · exact WC
 ·
  split
  · exact WC
  ·
   refine ⟨by simp,fun x hx=>?_⟩
   rw [List.mem_singleton.1 hx]
   have:=Jej (WU (JB t.setup t.deeds).1.clerk.heads)
   exact Je1 _ (by omega)
theorem Jjw (t:KO) (w:List (List UInt8)):JaJ (Zr t w).1∨∃ v,(Zr t w).1=[[43],v]:=by
 unfold Zr
 split
 · exact .inl WC
 split
 · exact .inl WC
 split
 · exact .inl WC
 split
 · exact .inl WC
 split
 · exact .inl ⟨by simp,by simp⟩
 · exact .inr ⟨_,rfl⟩
theorem JfX (t:KO) (w:List (List UInt8)):∀ c,JaJ (QF c t w).2.1∨∃ v,(QF c t w).2.1=[[43],v]
 | 0 | 1 | 2 | 3 | 4 | 5 | 6=>.inl WC
 | 7=>.inl (JfW t w)
 | 8=>Jjw t w
 | 9=>.inl (Jcs t w)
 | 10=>.inl (JeC t w)
 | 11=>.inl (JeD t w)
 | _+12=>.inl WC
theorem JhW:∀ (l:List (List UInt8)),(∀ x∈l,x.length≤21)→Lib.lens l≤21*l.length
 | [],_=>by simp [Lib.lens]
 | x::l,h=>by
  have h1:=h x (List.mem_cons_self ..)
  have h2:=JhW l fun y hy=>h y (List.mem_cons_of_mem _ hy)
  simp [Lib.lens] at h2 ⊢;omega
theorem JhX (c:Nat) (t:KO) (w:List (List UInt8)):(QF c t w).2.1.length≤10:=by
 rcases JfX t w c with h | ⟨v,h⟩
 · exact h.1
 · rw [h];simp
theorem Jb9 (c:Nat) (t:KO) (w:List (List UInt8)) (h:∀ x∈(QF c t w).2.1,x.length≤140737488351232):(Lib.join (([[111,107]]:List (List UInt8))++(QF c t w).2.1) [32]).length≤140737488355328:=by
 rw [List.singleton_append,Lib.join_length]
 rcases JfX t w c with hs | ⟨v,hv⟩
 ·
  have:=JhW _ hs.2
  have h10:=hs.1
  simp [Lib.lens] at this ⊢
  omega
 ·
  have:=h v (by rw [hv];simp)
  rw [hv]
  simp [Lib.lens]
  omega
theorem Jdu {G:Jp} {a:Option Addr} {c:Nat} {l:List (List UInt8)} (h:RS ES G a c l):∀ x∈l,x.length≤140737488351232:=fun x hx=>by
 obtain ⟨k,hk,rfl⟩:=List.mem_iff_getElem.1 hx
 obtain ⟨b,o,rfl⟩:=h.addr hk
 obtain ⟨cs,hc,_⟩:=h.get (List.getElem?_eq_getElem hk)
 exact hc.2
def okW:List UInt8:=[111,107]
def JaK (t:KO) (s:List UInt8):Int:=if KH (VM (JH s) 0)=12 then 1 else if 0≤Yt (KH (VM (JH s) 0))∧¬ ((JH s).length:Int)-1=Yt (KH (VM (JH s) 0)) then 3 else (QF (KH (VM (JH s) 0)) t ((JH s).drop 1)).2.2
theorem dErr12 {t:KO} {s x:List UInt8} (hx:(JH s)[0]? = some x) (h:KH x=12):JaK t s=1:=by
 unfold JaK;rw [← Ws hx,if_pos h]
theorem dErr3 {t:KO} {s x:List UInt8} (hx:(JH s)[0]? = some x) (h:KH x<12) (h1:0≤Yt (KH x)) (h2:¬ ((JH s).length:Int)-1=Yt (KH x)):JaK t s=3:=by
 unfold JaK;rw [← Ws hx,if_neg (by omega),if_pos ⟨h1,h2⟩]
theorem JgZ {t:KO} {s x:List UInt8} (hx:(JH s)[0]? = some x) (h:KH x<12) (h1:¬ (0≤Yt (KH x)∧¬ ((JH s).length:Int)-1=Yt (KH x))):JaK t s=(QF (KH x) t ((JH s).drop 1)).2.2:=by
 unfold JaK;rw [← Ws hx,if_neg (by omega),if_neg h1]
abbrev sm (e:Int):Prop:=0≤e∧e≤99
theorem sm_if {p:Prop} [Decidable p] {a b:Int} (ha:sm a) (hb:sm b):sm (if p then a else b):=by split <;> assumption
theorem JcQ {α:Type} {p:Prop} [Decidable p] {a b:α×Int} (ha:sm a.2) (hb:sm b.2):sm (if p then a else b).2:=by split <;> assumption
theorem sm_ifq {α β:Type} {p:Prop} [Decidable p] {a b:α×β×Int} (ha:sm a.2.2) (hb:sm b.2.2):sm (if p then a else b).2.2:=by split <;> assumption
theorem sm_ifr {α:Type} {p:Prop} [Decidable p] {a b:Int×α} (ha:sm a.1) (hb:sm b.1):sm (if p then a else b).1:=by split <;> assumption
theorem smG {e:Int} (h:sm e:=by repeat' first | assumption | refine sm_if ?_ ?_ | refine JcQ ?_ ?_ | refine sm_ifq ?_ ?_ | refine sm_ifr ?_ ?_ | (dsimp only [sm];omega)):sm e:=h
theorem sm_tr (n v:List UInt8):sm (Ks n v):=by unfold Ks;exact smG
theorem JoO (l:List J2):∀ (r:List J2) (i:Nat),sm (Jai l i r)
 | [],_=>(by decide:sm 0)
 | x::r,i=>by have:=sm_tr x.name x.value;have:=JoO l r (i+1);unfold Jai;exact smG
theorem JlG (l:List J2):sm (Kj l):=by have:=JoO l l 0;unfold Kj;exact smG
theorem sm_po (n:List UInt8):sm (KD n).2:=by unfold KD;exact smG
theorem JoP (h:JQ):sm (JI h):=by unfold JI;exact smG
theorem sm_ta (l:List J2) (q:List UInt8):sm (JT l q).2:=by have:=JlG l;unfold JT;exact smG
theorem sm_pr (p:Qy):sm (QK p):=by have:=JlG p.entries;unfold QK;exact smG
theorem sm_ps (p:Qy):sm (JX p).2:=by have:=sm_pr p;unfold JX;exact smG
theorem sm_prt (p:Qy):sm (QQ p).2:=by have:=sm_ps p;unfold QQ;exact smG
theorem sm_ph (r:Int) (p:Qy):sm (WQ r p):=by have:=sm_prt p;unfold WQ;exact smG
theorem sm_tf (l:List J2) (n:List UInt8):sm (JG l n).2.2:=by have:=JlG l;unfold JG;exact smG
theorem sm_tg (l:List J2) (n:List UInt8):sm (WY l n).2.2:=by have:=sm_tf l n;unfold WY;exact smG
theorem sm_pt (r:Int) (p:Qy):sm (Qp r p).2.2:=by have:=sm_ph r p;have:=sm_tg p.entries p.name;unfold Qp;exact smG
theorem sm_st (r:QB):sm (Jq r).2.2:=by have:=JoP r.head;have:=sm_pt r.head.root r.proof;unfold Jq;exact smG
theorem sm_pm (l:List J2) (n:List UInt8):sm (Qa l n).2:=by have:=JlG l;have:=sm_po n;unfold Qa;exact smG
theorem sm_qr (a:Zv):sm (Ky a):=by unfold Ky Qw;exact smG
theorem sm_ar:∀ l:List Zv,sm (ZE l)
 | []=>(by decide:sm 0)
 | a::l=>by have:=sm_qr a;have:=sm_ar l;unfold ZE;exact smG
theorem sm_qc (q:Q0):sm (Ki q):=by have:=sm_ar q.wait;unfold Ki;exact smG
theorem sm_he:∀ (l:List JQ) (i:Nat),sm (Y5 l i).1
 | [],_=>(by decide:sm 0)
 | h::l,i=>by have:=JoP h;have:=sm_he l (i+1);unfold Y5;exact smG
theorem sm_cc (l:List JQ):sm (Kd l).1:=by have:=sm_he l 0;unfold Kd;exact smG
theorem sm_be:∀ (bs:List (List J2)) (hs:List JQ),sm (Ys hs bs)
 | [],hs=>by unfold Ys;exact (by decide:sm 0)
 | l::bs,hs=>by have:=sm_ta l [];have:=sm_be bs (hs.drop 1);unfold Ys;exact smG
theorem sm_cb (c:KP):sm (Kb c):=by
 have:=sm_qc c.queue;have:=sm_cc c.heads;have:sm (QD c):=by
  have:=sm_be c.books c.heads;unfold QD;exact smG
 unfold Kb;exact smG
theorem sm_sl (c:KP) (n:List UInt8) (e:Int):sm (JJ c n e).2:=by
 have:sm (Kx c e).2:=by have:=sm_cb c;unfold Kx;exact smG
 have:=sm_pm (Kx c e).1 n;unfold JJ;exact smG
theorem sm_nm:∀ l p:List (List UInt8),sm (nmE p l)
 | [],p=>by unfold nmE;exact (by decide:sm 0)
 | n::l,p=>by have:=sm_nm l (p++[n]);unfold nmE;exact smG
theorem JlH (s:KC) (l:List Qc):sm (JB s l).2.2:=by
 have:sm (Jbs s l):=by
  have:sm (QM s):=by
   have:sm (J4 s.most s.batch s.every).2:=by unfold J4;exact smG
   have:sm (KM s.least s.top s.lost).2:=by unfold KM;exact smG
   have:=sm_nm s.names []
   unfold QM;exact smG
  unfold Jbs;exact smG
 unfold JB;exact smG
theorem JoQ (s:List UInt8):sm (Kk s).2:=by rcases JoF s with h | h <;> rw [h] <;> decide
theorem JlI (l:List (List UInt8)):sm (Jds l).2:=by unfold Jds;exact smG
theorem JkF (t:KO) (s:KC):sm (Zx t s).2:=by have:=JlH s [];unfold Zx;exact smG
theorem JkG (t:KO) (l:List Qc):sm (ZO t l).2:=by unfold ZO;exact smG
theorem Jjx (t:KO) (w:List (List UInt8)) (f:List Int→KC):sm (JlC t w f).2:=by have:=JlI w;have:=JkF t (f (Jds w).1);unfold JlC;exact smG
theorem sm_run (c:Nat) (t:KO) (w:List (List UInt8)):sm (QF c t w).2.2:=by
 have hp:=JlH t.setup t.deeds;have n0:=JoQ (VM w 0);have n1:=JoQ (VM w 1);have nn:=JlI w
 unfold QF
 split <;> dsimp only
 · exact Jjx ..
 · exact Jjx ..
 · unfold JkC;have:=JkF t (JoJ t.setup (Kk (VM w 0)).1);exact smG
 · unfold Wo;refine JcQ n1 (JkF ..)
 · unfold Zk;exact JcQ n0 (JkG ..)
 · unfold JoM;exact JcQ nn (JkG ..)
 · unfold Zl;exact JcQ n0 (JkG ..)
 · unfold dNow;exact smG
 · unfold Zr;have:=sm_sl (JB t.setup t.deeds).1.clerk (VM w 0) (Kk (VM w 1)).1;have:=sm_st (JJ (JB t.setup t.deeds).1.clerk (VM w 0) (Kk (VM w 1)).1).1;exact smG
 · unfold Jdt;exact smG
 · unfold Jju;refine JcQ n0 (JcQ hp ?_);split <;> (dsimp only [sm];omega)
 ·
  unfold Jjt;have:sm (KV (WU (JB t.setup t.deeds).1.clerk.heads)).2:=by rw [Ye];exact JoP _
  exact smG
 · decide
theorem Jbn (t:KO) (s:List UInt8):-9223372036854775808≤JaK t s∧JaK t s<9223372036854775808:=by
 have:sm (JaK t s):=by have:=sm_run (KH (VM (JH s) 0)) t ((JH s).drop 1);unfold JaK;exact smG
 omega
def ZD (t:KO) (s:List UInt8):KO:=if ¬ JaK t s=0 then t else (QF (KH (VM (JH s) 0)) t ((JH s).drop 1)).1
def Jat (t:KO) (s:List UInt8):List UInt8:=if ¬ JaK t s=0 then [101,114,114,32]++Lib.itoa (JaK t s) else Lib.join (okW::(QF (KH (VM (JH s) 0)) t ((JH s).drop 1)).2.1) [32]
set_option maxRecDepth 20000 in
theorem do_con (G:Jp) (b:Nat) (t:KO) (a_0:Option Addr) (c_0:Nat) (a_1:Option Addr) (c_1:Nat) (a_9:Option Addr) (c_9:Nat) (r_9:List Kg) (h_0:RS ES G a_0 c_0 t.setup.names) (h_1:RS EU G a_1 c_1 t.setup.keys) (h_2:rI t.setup.most) (h_3:rI t.setup.batch) (h_4:rI t.setup.every) (h_5:rI t.setup.least) (h_6:rI t.setup.top) (h_7:rI t.setup.lost) (h_8:rI t.setup.reach) (h_9:J0 WW G a_9 c_9 t.deeds r_9) (ht:t.deeds.length≤200) (hn:t.setup.names.length≤1000) (hk:t.setup.keys.length≤1000) (s:List UInt8) (hls:s.length≤1048576) (hS:dS (KH (VM (JH s) 0))=true) (hsp:∀ x∈JH s,x.length≤1048576):YP Tryz.prog 27 #[Pt b 0,Sr s] G [[Sg b 0 [Sl a_0 t.setup.names.length c_0,Sl a_1 t.setup.keys.length c_1,I t.setup.most,I t.setup.batch,I t.setup.every,I t.setup.least,I t.setup.top,I t.setup.lost,I t.setup.reach,Sl a_9 t.deeds.length c_9]],r_9] (fun u G' L'=>u=Sr (Jat t s)∧JkE (ZD t s) G' b L') (fun _ _ _=>False):=by
 intro Lr
 refine JpG Tryz.func27 35 [(0,Pt b 0),(1,Sr s)] rfl (fun w0 G0 hT=>?_)
 show TC _ _ _ _ _ ([Sg b 0 (KK t a_0 c_0 a_1 c_1 a_9 c_9)]::r_9::Lr)
 refine Je (Jc (Jv 4 #[Sr ([])] 9 (fun b1=>Jd (Jb (Je (Jc (Ja [0] [(7,Fv 45 #[Pt b1 0])] (JjQ { target:=.fn (.func 45) #[Pt b1 0],args:=#[] } (Jd (Jb (Je (Jc (Ja [0] [(8,Sr s)] (JF 9 (Jl0 G s J7) (fun v G1 L1 hl1 hp=>?_)))))))))))))))
 obtain ⟨a1,c1,_,rfl,hr1,rfl⟩:=hp
 refine Ja [0] [(5,Sl a1 ((JH s).length) c1)] (Jd (Jb (Je (Jc (Ja [0] [(10,Sl a1 ((JH s).length) c1)] (WJ (E:=ES) 0 hr1 (by have q_:=W2 s;(try simp only [ES,List.length_append,List.length_cons,List.length_nil]);omega) (fun G2 hl2 hs1=>?_)))))))
 obtain ⟨b2,o1,rfl⟩:=RS.addr hs1 (k:=0) (by (have q_:=Y3 s;have q2_:=W2 s;omega))
 obtain ⟨x1,hx1⟩:=We (l:=JH s) (k:=0) (by (have q_:=Y3 s;have q2_:=W2 s;omega))
 obtain ⟨_,⟨rfl,_⟩,hc1⟩:=RS.get hs1 hx1
 refine J3 (b:=b2) (off:=o1) (len:=(JH s).length) (cap:=c1) (ik:=.i64) 11 9 1 0 (by (have q_:=Y3 s;have q2_:=W2 s;omega)) (JW 12 9 (cs:=[Sr x1]) 0 (Sr x1) hc1 (QJ (Ls:=[]) (Lr:=([]::[Sg b1 0 [Sr ([])]]::[Sg b 0 (KK t a_0 c_0 a_1 c_1 a_9 c_9)]::r_9::Lr)) 13 hT ((JoI G2 x1).frame) (fun v G3 L1 hl3 hp=>?_) (fun v G3 L1 hl3 hp=>?_)))
 obtain ⟨hc2,rfl,rfl⟩:=hp
 refine KJ (Ji 1 ?_)
 have hq1:JaK t s=1:=by
  exact dErr12 hx1 hc2
 refine Jb7 ([Sg b1 0 [Sr ([101,114,114,32]++Lib.itoa 1)]]::([]::[Sg b 0 (KK t a_0 c_0 a_1 c_1 a_9 c_9)]::r_9::Lr)) [0] [Sr ([101,114,114,32]++Lib.itoa 1)] (fun _=>by kernel_rfl) (fun w hw=>Jb8 _ _ _ _ (by rw [← hq1];exact Jbn t s) _ _ _ w hT hw) (bpx (KQ (Lr:=Lr) [[Sg b 0 (KK t a_0 c_0 a_1 c_1 a_9 c_9)],r_9] (Jp.le_trans (Jp.le_trans hl1 hl2) hl3) ⟨?_,?_⟩))
 rw [Jat,hq1,if_pos (by decide)];rfl
 rw [ZD,hq1,if_pos (by decide)];exact ⟨a_0,c_0,a_1,c_1,a_9,c_9,r_9,h_0.mono (Jp.le_trans (Jp.le_trans hl1 hl2) hl3),h_1.mono (Jp.le_trans (Jp.le_trans hl1 hl2) hl3),h_2,h_3,h_4,h_5,h_6,h_7,h_8,h_9.mono (Jp.le_trans (Jp.le_trans hl1 hl2) hl3),rfl⟩
 obtain ⟨_,rfl,rfl⟩:=hp
 refine Jv 6 #[I 0,.nilFunc] 127 (fun b3=>JV [3] [] ([Sg b3 0 [I (Yt (KH x1)),Fv (VL (KH x1)) #[]]]::[]::[Sg b1 0 [Sr ([])]]::[Sg b 0 (KK t a_0 c_0 a_1 c_1 a_9 c_9)]::r_9::Lr) (Jd (Jb (Je (Je (Jc (Ja [0,2,0,0] [(17,Bo (decide (Yt (KH x1) ≥ 0)))] (Qu [17] (decide (Yt (KH x1) ≥ 0)) (fun h1=>?_) (fun h1=>?_)))))))))
 refine Ja [0,0,0,0,2,0,0] [(24,Bo (!decide (IntKind.i64.wrap (((JH s).length:Int)-1)=Yt (KH x1))))] ?_
 have e1:IntKind.i64.wrap (((JH s).length:Int)-1)=((JH s).length:Int)-1:=IntWalk.i64_in _ (by (have q_:=Y3 s;have q2_:=W2 s;omega))
 refine KI 24 (Bo (!decide (((JH s).length:Int)-1=Yt (KH x1)))) (show (Bo (!decide (IntKind.i64.wrap (((JH s).length:Int)-1)=Yt (KH x1))):Value)=Bo (!decide (((JH s).length:Int)-1=Yt (KH x1))) by simp only [e1]) ?_
 clear e1
 refine Jd (Jb (Jk (!decide (((JH s).length:Int)-1=Yt (KH x1))) (fun h2=>?_) (fun h2=>?_)))
 refine Jc (QJ (Ls:=[]) (Lr:=([Sg b3 0 [I (Yt (KH x1)),Fv (VL (KH x1)) #[]]]::[]::[Sg b1 0 [Sr ([])]]::[Sg b 0 (KK t a_0 c_0 a_1 c_1 a_9 c_9)]::r_9::Lr)) 25 hT ((Z6 G3 3).frame) (fun v G4 L1 hl4 hp=>?_) (fun v G4 L1 hl4 hp=>?_))
 obtain ⟨_,rfl,rfl⟩:=hp
 refine KJ (Ji 2 ?_)
 have hq2:JaK t s=3:=by
  exact dErr3 hx1 J7 J7 (by omega)
 refine Jb7 ([Sg b1 0 [Sr ([101,114,114,32]++Lib.itoa 3)]]::([Sg b3 0 [I (Yt (KH x1)),Fv (VL (KH x1)) #[]]]::[]::[Sg b 0 (KK t a_0 c_0 a_1 c_1 a_9 c_9)]::r_9::Lr)) [0] [Sr ([101,114,114,32]++Lib.itoa 3)] (fun _=>by kernel_rfl) (fun w hw=>Jb8 _ _ _ _ (by rw [← hq2];exact Jbn t s) _ _ _ w hT hw) (bpx (KQ (Lr:=Lr) [[Sg b 0 (KK t a_0 c_0 a_1 c_1 a_9 c_9)],r_9] (Jp.le_trans (Jp.le_trans (Jp.le_trans hl1 hl2) hl3) hl4) ⟨?_,?_⟩))
 rw [Jat,hq2,if_pos (by decide)];rfl
 rw [ZD,hq2,if_pos (by decide)];exact ⟨a_0,c_0,a_1,c_1,a_9,c_9,r_9,h_0.mono (Jp.le_trans (Jp.le_trans (Jp.le_trans hl1 hl2) hl3) hl4),h_1.mono (Jp.le_trans (Jp.le_trans (Jp.le_trans hl1 hl2) hl3) hl4),h_2,h_3,h_4,h_5,h_6,h_7,h_8,h_9.mono (Jp.le_trans (Jp.le_trans (Jp.le_trans hl1 hl2) hl3) hl4),rfl⟩
 obtain ⟨he1,rfl,rfl⟩:=hp
 exact absurd he1 (by decide)
 refine Jo (Jb ?_)
 refine Yv (σ:=(Option Addr)×Nat×(Option Addr)×Nat×(Option Addr)×Nat×(List Kg)×Jp) (fun q_=>(Jp.le G3 q_.2.2.2.2.2.2.2)∧(RS ES q_.2.2.2.2.2.2.2 q_.1 q_.2.1 (((QF (KH x1) t ((JH s).drop 1)).1).setup.names))∧(RS EU q_.2.2.2.2.2.2.2 q_.2.2.1 q_.2.2.2.1 (((QF (KH x1) t ((JH s).drop 1)).1).setup.keys))∧(rI (((QF (KH x1) t ((JH s).drop 1)).1).setup.most))∧(rI (((QF (KH x1) t ((JH s).drop 1)).1).setup.batch))∧(rI (((QF (KH x1) t ((JH s).drop 1)).1).setup.every))∧(rI (((QF (KH x1) t ((JH s).drop 1)).1).setup.least))∧(rI (((QF (KH x1) t ((JH s).drop 1)).1).setup.top))∧(rI (((QF (KH x1) t ((JH s).drop 1)).1).setup.lost))∧(rI (((QF (KH x1) t ((JH s).drop 1)).1).setup.reach))∧(J0 WW q_.2.2.2.2.2.2.2 q_.2.2.2.2.1 q_.2.2.2.2.2.1 (((QF (KH x1) t ((JH s).drop 1)).1).deeds) q_.2.2.2.2.2.2.1)∧((QF (KH x1) t ((JH s).drop 1)).2.2=0)) (fun q_=>[(4,Pt b1 0)]) (fun q_=>q_.2.2.2.2.2.2.2) (fun q_=>([Sg b 0 (KK (QF (KH x1) t ((JH s).drop 1)).1 q_.1 q_.2.1 q_.2.2.1 q_.2.2.2.1 q_.2.2.2.2.1 q_.2.2.2.2.2.1)]::q_.2.2.2.2.2.2.1::[]::[Sg b3 0 [I (Yt (KH x1)),Fv (VL (KH x1)) #[]]]::[]::[Sg b1 0 [Sr (Lib.join (([[111,107]]:List (List UInt8))++((QF (KH x1) t ((JH s).drop 1)).2.1)) [32])]]::Lr)) ?_ (fun q_ hs=>?_)
 obtain ⟨a2,c2,ea1,ec1,en1,eh1,hs2⟩:=RS.reslXD (hs1.mono hl3) 1 (by omega)
 refine Ko [0,6,7,8,9] (Wm [(1,Pt b3 1),(2,Fv (VL (KH x1)) #[]),(3,Pt b 0),(4,Sl (At b2 o1) ((JH s).length) c1),(5,Sl a2 (((JH s).drop 1).length) c2)] (JK [] [(1,0),(2,2),(3,0),(4,0)] [5] [0,6] (Ke ?_ K4) (Ke ?_ (Ke ?_ K4))))
 refine Jr 5 31 (Sl a2 (((JH s).drop 1).length) c2) [(30,Sl (At b2 o1) ((JH s).length) c1)] (fun X=>?_)
 exact WD (a:=At b2 o1) (len:=(JH s).length) (cap:=c1) 31 1 (some (I 1)) none 1 ((JH s).length) (.inr ⟨_,rfl⟩) (.inl ⟨rfl,rfl⟩) J7 ea1 ec1 en1 eh1 Jn
 refine JD 0 [] (fun X=>?_)
 refine Kq 26 1 #[Sr ([111,107])] 9 (fun b4=>JC [(0,Sl (At b4 0) 1 1)] (JK [] [(1,0),(2,4),(3,0),(4,0)] [5] [6] (Ke ?_ K4) (Ke ?_ K4)))
 refine Jr 5 31 (Sl a2 (((JH s).drop 1).length) c2) [(30,Sl (At b2 o1) ((JH s).length) c1)] (fun X=>?_)
 exact WD (a:=At b2 o1) (len:=(JH s).length) (cap:=c1) 31 1 (some (I 1)) none 1 ((JH s).length) (.inr ⟨_,rfl⟩) (.inl ⟨rfl,rfl⟩) J7 ea1 ec1 en1 eh1 Jn
 refine JD 6 [(4,Pt b1 0),(28,Fv (VL (KH x1)) #[]),(29,Pt b 0),(31,Sl a2 (((JH s).drop 1).length) c2)] (fun X=>?_)
 refine Jx 5 (Jx 5 ?_)
 have hB_:JkE t G3 b [[Sg b 0 (KK t a_0 c_0 a_1 c_1 a_9 c_9)],r_9]:=⟨a_0,c_0,a_1,c_1,a_9,c_9,r_9,h_0.mono (Jp.le_trans (Jp.le_trans hl1 hl2) hl3),h_1.mono (Jp.le_trans (Jp.le_trans hl1 hl2) hl3),h_2,h_3,h_4,h_5,h_6,h_7,h_8,h_9.mono (Jp.le_trans (Jp.le_trans hl1 hl2) hl3),rfl⟩
 refine JaC (Ls:=[[Sg b 0 (KK t a_0 c_0 a_1 c_1 a_9 c_9)],r_9]) (Lr:=([Sg b4 0 [Sr ([111,107])]]::[Sg b3 0 [I (Yt (KH x1)),Fv (VL (KH x1)) #[]]]::[]::[Sg b1 0 [Sr ([])]]::Lr)) 32 (JhV _ J7) hT (Je2 (KH x1) J7 (by rw [Ws hx1];exact hS) G3 b t _ hB_ ht hn hk a2 c2 ((JH s).drop 1) hs2 (by intro hq_;rw [List.length_drop];simp_all;omega) (by rw [List.length_drop];have q2_:=W2 s;omega) (fun z_ hz_=>hsp z_ (List.mem_of_mem_drop hz_))) (fun v G5 L1 hl5 hp=>?_) (fun v G5 L1 hl5 hp=>?_)
 obtain ⟨hne2,rfl,rfl⟩:=hp
 refine KJ (KJ (Ji 5 ?_))
 have hq3:JaK t s=(QF (KH x1) t ((JH s).drop 1)).2.2:=by
  exact JgZ hx1 J7 (by omega)
 refine Jb7 ([Sg b1 0 [Sr ([101,114,114,32]++Lib.itoa ((QF (KH x1) t ((JH s).drop 1)).2.2))]]::([Sg b 0 (KK t a_0 c_0 a_1 c_1 a_9 c_9)]::r_9::[Sg b4 0 [Sr ([111,107])]]::[Sg b3 0 [I (Yt (KH x1)),Fv (VL (KH x1)) #[]]]::[]::Lr)) [0] [Sr ([101,114,114,32]++Lib.itoa ((QF (KH x1) t ((JH s).drop 1)).2.2))] (fun _=>by kernel_rfl) (fun w hw=>Jb8 _ _ _ _ (by rw [← hq3];exact Jbn t s) _ _ _ w hT hw) (bpx (KQ (Lr:=Lr) [[Sg b 0 (KK t a_0 c_0 a_1 c_1 a_9 c_9)],r_9] (Jp.le_trans (Jp.le_trans (Jp.le_trans hl1 hl2) hl3) hl5) ⟨?_,?_⟩))
 rw [Jat,hq3,if_pos hne2];rfl
 rw [ZD,hq3,if_pos hne2];exact ⟨a_0,c_0,a_1,c_1,a_9,c_9,r_9,h_0.mono (Jp.le_trans (Jp.le_trans (Jp.le_trans hl1 hl2) hl3) hl5),h_1.mono (Jp.le_trans (Jp.le_trans (Jp.le_trans hl1 hl2) hl3) hl5),h_2,h_3,h_4,h_5,h_6,h_7,h_8,h_9.mono (Jp.le_trans (Jp.le_trans (Jp.le_trans hl1 hl2) hl3) hl5),rfl⟩
 obtain ⟨he3,a4,c4,rfl,hs4,hB1⟩:=hp
 have dn_:=JhX (KH x1) t ((JH s).drop 1)
 obtain ⟨a5,c5,a6,c6,a7,c7,r2,hs5,hs6,w2,w3,w4,w5,w6,w7,w8,hr2,rfl⟩:=hB1
 refine JC [(6,Sl a4 ((QF (KH x1) t ((JH s).drop 1)).2.1.length) c4)] (JK [1,2,3,4,5] [] [] [7] (List.forall_mem_nil _) (Ke ?_ K4))
 refine JD 7 [(26,Sl (At b4 0) 1 1),(32,Sl a4 ((QF (KH x1) t ((JH s).drop 1)).2.1.length) c4)] (fun X=>?_)
 refine JaT 33 9 2 (E:=ES) (J0.of_lit (E:=ES) (G:=G5) (b:=b4) [[Sr ([111,107])]] [[111,107]] ⟨⟨rfl,(Nat.le_of_ble_eq_true rfl)⟩,trivial⟩ (by simp)) hs4 (by have:=hs4.fit;simp only [ES] at this;(try simp only [List.length_append,List.length_cons,List.length_nil]);omega) (by have:=hs4.fit;simp only [ES] at this;(try simp only [ES,List.length_append,List.length_cons,List.length_nil]);omega) (fun a8 c8 r3 hr3=>JC [(7,Sl a8 ((([[111,107]]:List (List UInt8))++((QF (KH x1) t ((JH s).drop 1)).2.1)).length) c8)] (JK [1,2,3,4,5] [] [] [8] (List.forall_mem_nil _) (Ke ?_ K4)))
 refine JD 8 [(33,Sl a8 ((([[111,107]]:List (List UInt8))++((QF (KH x1) t ((JH s).drop 1)).2.1)).length) c8)] (fun X=>?_)
 refine WJ (E:=ES) 2 hr3 (by have q_:=W2 s;(try simp only [ES,List.length_append,List.length_cons,List.length_nil]);omega) (fun G6 hl6 hs7=>?_)
 obtain ⟨b5,o2,rfl⟩:=RS.addr hs7 (k:=0) (by simp)
 refine Jj 34 (Sr (Lib.join (([[111,107]]:List (List UInt8))++((QF (KH x1) t ((JH s).drop 1)).2.1)) [32])) (Jc4 G6 b5 o2 c8 (([[111,107]]:List (List UInt8))++((QF (KH x1) t ((JH s).drop 1)).2.1)) [32] hs7 (by simp) (by simp only [List.length_append,List.length_cons,List.length_nil];omega) (Jb9 _ _ _ (Jdu hs4))) (JC [(8,Sr (Lib.join (([[111,107]]:List (List UInt8))++((QF (KH x1) t ((JH s).drop 1)).2.1)) [32]))] (JK [1,2,3,4,5] [] [] [9] (List.forall_mem_nil _) (Ke ?_ K4)))
 refine JD 9 [(4,Pt b1 0),(34,Sr (Lib.join (([[111,107]]:List (List UInt8))++((QF (KH x1) t ((JH s).drop 1)).2.1)) [32]))] (fun X=>?_)
 exact KL 5 ([Sg b 0 (KK (QF (KH x1) t ((JH s).drop 1)).1 a5 c5 a6 c6 a7 c7)]::r2::[]::[Sg b3 0 [I (Yt (KH x1)),Fv (VL (KH x1)) #[]]]::[]::[Sg b1 0 [Sr (Lib.join (([[111,107]]:List (List UInt8))++((QF (KH x1) t ((JH s).drop 1)).2.1)) [32])]]::Lr) (Kc [] (Km [1,2,3,4,5] [] [] [(4,Pt b1 0)] (List.forall_mem_nil _) (Wb (a5,c5,a6,c6,a7,c7,r2,G6) ⟨(Jp.le_trans hl5 hl6),(hs5.mono hl6),(hs6.mono hl6),w2,w3,w4,w5,w6,w7,w8,(hr2.mono hl6),he3⟩)))
 refine JD 6 [(4,Pt b1 0),(28,Fv (VL (KH x1)) #[]),(29,Pt b 0),(31,Sl a2 (((JH s).drop 1).length) c2)] (fun X=>?_)
 refine Jx 4 (Jx 4 ?_)
 have hB_:JkE t G3 b [[Sg b 0 (KK t a_0 c_0 a_1 c_1 a_9 c_9)],r_9]:=⟨a_0,c_0,a_1,c_1,a_9,c_9,r_9,h_0.mono (Jp.le_trans (Jp.le_trans hl1 hl2) hl3),h_1.mono (Jp.le_trans (Jp.le_trans hl1 hl2) hl3),h_2,h_3,h_4,h_5,h_6,h_7,h_8,h_9.mono (Jp.le_trans (Jp.le_trans hl1 hl2) hl3),rfl⟩
 refine JaC (Ls:=[[Sg b 0 (KK t a_0 c_0 a_1 c_1 a_9 c_9)],r_9]) (Lr:=([Sg b3 0 [I (Yt (KH x1)),Fv (VL (KH x1)) #[]]]::[]::[Sg b1 0 [Sr ([])]]::Lr)) 32 (JhV _ J7) hT (Je2 (KH x1) J7 (by rw [Ws hx1];exact hS) G3 b t _ hB_ ht hn hk a2 c2 ((JH s).drop 1) hs2 (by intro hq_;rw [List.length_drop];simp_all;omega) (by rw [List.length_drop];have q2_:=W2 s;omega) (fun z_ hz_=>hsp z_ (List.mem_of_mem_drop hz_))) (fun v G7 L1 hl7 hp=>?_) (fun v G7 L1 hl7 hp=>?_)
 obtain ⟨hne3,rfl,rfl⟩:=hp
 refine KJ (KJ (Ji 4 ?_))
 have hq4:JaK t s=(QF (KH x1) t ((JH s).drop 1)).2.2:=by
  exact JgZ hx1 J7 (by omega)
 refine Jb7 ([Sg b1 0 [Sr ([101,114,114,32]++Lib.itoa ((QF (KH x1) t ((JH s).drop 1)).2.2))]]::([Sg b 0 (KK t a_0 c_0 a_1 c_1 a_9 c_9)]::r_9::[Sg b3 0 [I (Yt (KH x1)),Fv (VL (KH x1)) #[]]]::[]::Lr)) [0] [Sr ([101,114,114,32]++Lib.itoa ((QF (KH x1) t ((JH s).drop 1)).2.2))] (fun _=>by kernel_rfl) (fun w hw=>Jb8 _ _ _ _ (by rw [← hq4];exact Jbn t s) _ _ _ w hT hw) (bpx (KQ (Lr:=Lr) [[Sg b 0 (KK t a_0 c_0 a_1 c_1 a_9 c_9)],r_9] (Jp.le_trans (Jp.le_trans (Jp.le_trans hl1 hl2) hl3) hl7) ⟨?_,?_⟩))
 rw [Jat,hq4,if_pos hne3];rfl
 rw [ZD,hq4,if_pos hne3];exact ⟨a_0,c_0,a_1,c_1,a_9,c_9,r_9,h_0.mono (Jp.le_trans (Jp.le_trans (Jp.le_trans hl1 hl2) hl3) hl7),h_1.mono (Jp.le_trans (Jp.le_trans (Jp.le_trans hl1 hl2) hl3) hl7),h_2,h_3,h_4,h_5,h_6,h_7,h_8,h_9.mono (Jp.le_trans (Jp.le_trans (Jp.le_trans hl1 hl2) hl3) hl7),rfl⟩
 obtain ⟨he4,a9,c9,rfl,hs8,hB2⟩:=hp
 have dn_:=JhX (KH x1) t ((JH s).drop 1)
 obtain ⟨a10,c10,a11,c11,a12,c12,r4,hs9,hs10,w9,w10,w11,w12,w13,w14,w15,hr4,rfl⟩:=hB2
 refine JC [(6,Sl a9 ((QF (KH x1) t ((JH s).drop 1)).2.1.length) c9)] (JK [1,2,3,4,5] [] [] [0] (List.forall_mem_nil _) (Ke ?_ K4))
 refine JD 0 [] (fun X=>?_)
 refine Kq 26 1 #[Sr ([111,107])] 9 (fun b6=>JC [(0,Sl (At b6 0) 1 1)] (JK [1,2,3,4,5] [] [] [7] (List.forall_mem_nil _) (Ke ?_ K4)))
 refine JD 7 [(26,Sl (At b6 0) 1 1),(32,Sl a9 ((QF (KH x1) t ((JH s).drop 1)).2.1.length) c9)] (fun X=>?_)
 refine JaT 33 9 0 (E:=ES) (J0.of_lit (E:=ES) (G:=G7) (b:=b6) [[Sr ([111,107])]] [[111,107]] ⟨⟨rfl,(Nat.le_of_ble_eq_true rfl)⟩,trivial⟩ (by simp)) hs8 (by have:=hs8.fit;simp only [ES] at this;(try simp only [List.length_append,List.length_cons,List.length_nil]);omega) (by have:=hs8.fit;simp only [ES] at this;(try simp only [ES,List.length_append,List.length_cons,List.length_nil]);omega) (fun a13 c13 r5 hr5=>JC [(7,Sl a13 ((([[111,107]]:List (List UInt8))++((QF (KH x1) t ((JH s).drop 1)).2.1)).length) c13)] (JK [1,2,3,4,5] [] [] [8] (List.forall_mem_nil _) (Ke ?_ K4)))
 refine JD 8 [(33,Sl a13 ((([[111,107]]:List (List UInt8))++((QF (KH x1) t ((JH s).drop 1)).2.1)).length) c13)] (fun X=>?_)
 refine WJ (E:=ES) 0 hr5 (by have q_:=W2 s;(try simp only [ES,List.length_append,List.length_cons,List.length_nil]);omega) (fun G8 hl8 hs11=>?_)
 obtain ⟨b7,o3,rfl⟩:=RS.addr hs11 (k:=0) (by simp)
 refine Jj 34 (Sr (Lib.join (([[111,107]]:List (List UInt8))++((QF (KH x1) t ((JH s).drop 1)).2.1)) [32])) (Jc4 G8 b7 o3 c13 (([[111,107]]:List (List UInt8))++((QF (KH x1) t ((JH s).drop 1)).2.1)) [32] hs11 (by simp) (by simp only [List.length_append,List.length_cons,List.length_nil];omega) (Jb9 _ _ _ (Jdu hs8))) (JC [(8,Sr (Lib.join (([[111,107]]:List (List UInt8))++((QF (KH x1) t ((JH s).drop 1)).2.1)) [32]))] (JK [1,2,3,4,5] [] [] [9] (List.forall_mem_nil _) (Ke ?_ K4)))
 refine JD 9 [(4,Pt b1 0),(34,Sr (Lib.join (([[111,107]]:List (List UInt8))++((QF (KH x1) t ((JH s).drop 1)).2.1)) [32]))] (fun X=>?_)
 exact KL 5 ([]::[Sg b 0 (KK (QF (KH x1) t ((JH s).drop 1)).1 a10 c10 a11 c11 a12 c12)]::r4::[Sg b3 0 [I (Yt (KH x1)),Fv (VL (KH x1)) #[]]]::[]::[Sg b1 0 [Sr (Lib.join (([[111,107]]:List (List UInt8))++((QF (KH x1) t ((JH s).drop 1)).2.1)) [32])]]::Lr) (Kc [] (Km [1,2,3,4,5] [] [] [(4,Pt b1 0)] (List.forall_mem_nil _) (Ji 5 (Ji 5 (Ji 5 (Ji 3 (Ji 5 (Ji 5 (Wb (a10,c10,a11,c11,a12,c12,r4,G8) ⟨(Jp.le_trans hl7 hl8),(hs9.mono hl8),(hs10.mono hl8),w9,w10,w11,w12,w13,w14,w15,(hr4.mono hl8),he4⟩)))))))))
 obtain ⟨a5,c5,a6,c6,a7,c7,r2,G6⟩:=q_
 obtain ⟨hle1,hj1,hj2,hj3,hj4,hj5,hj6,hj7,hj8,hj9,hj10,he2⟩:=hs
 dsimp only at hle1 hj1 hj2 hj3 hj4 hj5 hj6 hj7 hj8 hj9 hj10 he2
 dsimp only
 refine Jl (Ji 1 (Ji 1 (Ji 5 ?_)))
 have hq5:JaK t s=0:=(JgZ hx1 (by omega) (by omega)).trans he2
 refine JlD [0] [Sr (Lib.join (([[111,107]]:List (List UInt8))++((QF (KH x1) t ((JH s).drop 1)).2.1)) [32])] (fun _=>by kernel_rfl) (fun w hw=>JlE _ b1 _ _ _ w hw) (bpx (KQ (Lr:=Lr) [[Sg b 0 (KK (QF (KH x1) t ((JH s).drop 1)).1 a5 c5 a6 c6 a7 c7)],r2] (Jp.le_trans (Jp.le_trans (Jp.le_trans hl1 hl2) hl3) hle1) ⟨?_,?_⟩))
 rw [Jat,hq5,if_neg (by simp),Ws hx1];rfl
 rw [ZD,hq5,if_neg (by simp),← Ws hx1];exact ⟨a5,c5,a6,c6,a7,c7,r2,hj1,hj2,hj3,hj4,hj5,hj6,hj7,hj8,hj9,hj10,rfl⟩
 refine Ja [1,1,1,1,1,1,0] [(24,Bo false)] (Jd (Jb (Qq (Jo (Jb ?_)))))
 refine Yv (σ:=(Option Addr)×Nat×(Option Addr)×Nat×(Option Addr)×Nat×(List Kg)×Jp) (fun q_=>(Jp.le G3 q_.2.2.2.2.2.2.2)∧(RS ES q_.2.2.2.2.2.2.2 q_.1 q_.2.1 (((QF (KH x1) t ((JH s).drop 1)).1).setup.names))∧(RS EU q_.2.2.2.2.2.2.2 q_.2.2.1 q_.2.2.2.1 (((QF (KH x1) t ((JH s).drop 1)).1).setup.keys))∧(rI (((QF (KH x1) t ((JH s).drop 1)).1).setup.most))∧(rI (((QF (KH x1) t ((JH s).drop 1)).1).setup.batch))∧(rI (((QF (KH x1) t ((JH s).drop 1)).1).setup.every))∧(rI (((QF (KH x1) t ((JH s).drop 1)).1).setup.least))∧(rI (((QF (KH x1) t ((JH s).drop 1)).1).setup.top))∧(rI (((QF (KH x1) t ((JH s).drop 1)).1).setup.lost))∧(rI (((QF (KH x1) t ((JH s).drop 1)).1).setup.reach))∧(J0 WW q_.2.2.2.2.2.2.2 q_.2.2.2.2.1 q_.2.2.2.2.2.1 (((QF (KH x1) t ((JH s).drop 1)).1).deeds) q_.2.2.2.2.2.2.1)∧((QF (KH x1) t ((JH s).drop 1)).2.2=0)) (fun q_=>[(4,Pt b1 0)]) (fun q_=>q_.2.2.2.2.2.2.2) (fun q_=>([Sg b 0 (KK (QF (KH x1) t ((JH s).drop 1)).1 q_.1 q_.2.1 q_.2.2.1 q_.2.2.2.1 q_.2.2.2.2.1 q_.2.2.2.2.2.1)]::q_.2.2.2.2.2.2.1::[]::[Sg b3 0 [I (Yt (KH x1)),Fv (VL (KH x1)) #[]]]::[]::[Sg b1 0 [Sr (Lib.join (([[111,107]]:List (List UInt8))++((QF (KH x1) t ((JH s).drop 1)).2.1)) [32])]]::Lr)) ?_ (fun q_ hs=>?_)
 obtain ⟨a14,c14,ea3,ec3,en3,eh3,hs12⟩:=RS.reslXD (hs1.mono hl3) 1 (by (have q_:=Y3 s;have q2_:=W2 s;omega))
 refine Ko [0,6,7,8,9] (Wm [(1,Pt b3 1),(2,Fv (VL (KH x1)) #[]),(3,Pt b 0),(4,Sl (At b2 o1) ((JH s).length) c1),(5,Sl a14 (((JH s).drop 1).length) c14)] (JK [] [(1,0),(2,2),(3,0),(4,0)] [5] [0,6] (Ke ?_ K4) (Ke ?_ (Ke ?_ K4))))
 refine Jr 5 31 (Sl a14 (((JH s).drop 1).length) c14) [(30,Sl (At b2 o1) ((JH s).length) c1)] (fun X=>?_)
 exact WD (a:=At b2 o1) (len:=(JH s).length) (cap:=c1) 31 1 (some (I 1)) none 1 ((JH s).length) (.inr ⟨_,rfl⟩) (.inl ⟨rfl,rfl⟩) (by (have q_:=Y3 s;have q2_:=W2 s;omega)) ea3 ec3 en3 eh3 Jn
 refine JD 0 [] (fun X=>?_)
 refine Kq 26 1 #[Sr ([111,107])] 9 (fun b8=>JC [(0,Sl (At b8 0) 1 1)] (JK [] [(1,0),(2,4),(3,0),(4,0)] [5] [6] (Ke ?_ K4) (Ke ?_ K4)))
 refine Jr 5 31 (Sl a14 (((JH s).drop 1).length) c14) [(30,Sl (At b2 o1) ((JH s).length) c1)] (fun X=>?_)
 exact WD (a:=At b2 o1) (len:=(JH s).length) (cap:=c1) 31 1 (some (I 1)) none 1 ((JH s).length) (.inr ⟨_,rfl⟩) (.inl ⟨rfl,rfl⟩) (by (have q_:=Y3 s;have q2_:=W2 s;omega)) ea3 ec3 en3 eh3 Jn
 refine JD 6 [(4,Pt b1 0),(28,Fv (VL (KH x1)) #[]),(29,Pt b 0),(31,Sl a14 (((JH s).drop 1).length) c14)] (fun X=>?_)
 refine Jx 5 (Jx 5 ?_)
 have hB_:JkE t G3 b [[Sg b 0 (KK t a_0 c_0 a_1 c_1 a_9 c_9)],r_9]:=⟨a_0,c_0,a_1,c_1,a_9,c_9,r_9,h_0.mono (Jp.le_trans (Jp.le_trans hl1 hl2) hl3),h_1.mono (Jp.le_trans (Jp.le_trans hl1 hl2) hl3),h_2,h_3,h_4,h_5,h_6,h_7,h_8,h_9.mono (Jp.le_trans (Jp.le_trans hl1 hl2) hl3),rfl⟩
 refine JaC (Ls:=[[Sg b 0 (KK t a_0 c_0 a_1 c_1 a_9 c_9)],r_9]) (Lr:=([Sg b8 0 [Sr ([111,107])]]::[Sg b3 0 [I (Yt (KH x1)),Fv (VL (KH x1)) #[]]]::[]::[Sg b1 0 [Sr ([])]]::Lr)) 32 (JhV _ J7) hT (Je2 (KH x1) J7 (by rw [Ws hx1];exact hS) G3 b t _ hB_ ht hn hk a14 c14 ((JH s).drop 1) hs12 (by intro hq_;rw [List.length_drop];simp_all;omega) (by rw [List.length_drop];have q2_:=W2 s;omega) (fun z_ hz_=>hsp z_ (List.mem_of_mem_drop hz_))) (fun v G9 L1 hl9 hp=>?_) (fun v G9 L1 hl9 hp=>?_)
 obtain ⟨hne4,rfl,rfl⟩:=hp
 refine KJ (KJ (Ji 5 ?_))
 have hq6:JaK t s=(QF (KH x1) t ((JH s).drop 1)).2.2:=by
  exact JgZ hx1 J7 (by omega)
 refine Jb7 ([Sg b1 0 [Sr ([101,114,114,32]++Lib.itoa ((QF (KH x1) t ((JH s).drop 1)).2.2))]]::([Sg b 0 (KK t a_0 c_0 a_1 c_1 a_9 c_9)]::r_9::[Sg b8 0 [Sr ([111,107])]]::[Sg b3 0 [I (Yt (KH x1)),Fv (VL (KH x1)) #[]]]::[]::Lr)) [0] [Sr ([101,114,114,32]++Lib.itoa ((QF (KH x1) t ((JH s).drop 1)).2.2))] (fun _=>by kernel_rfl) (fun w hw=>Jb8 _ _ _ _ (by rw [← hq6];exact Jbn t s) _ _ _ w hT hw) (bpx (KQ (Lr:=Lr) [[Sg b 0 (KK t a_0 c_0 a_1 c_1 a_9 c_9)],r_9] (Jp.le_trans (Jp.le_trans (Jp.le_trans hl1 hl2) hl3) hl9) ⟨?_,?_⟩))
 rw [Jat,hq6,if_pos hne4];rfl
 rw [ZD,hq6,if_pos hne4];exact ⟨a_0,c_0,a_1,c_1,a_9,c_9,r_9,h_0.mono (Jp.le_trans (Jp.le_trans (Jp.le_trans hl1 hl2) hl3) hl9),h_1.mono (Jp.le_trans (Jp.le_trans (Jp.le_trans hl1 hl2) hl3) hl9),h_2,h_3,h_4,h_5,h_6,h_7,h_8,h_9.mono (Jp.le_trans (Jp.le_trans (Jp.le_trans hl1 hl2) hl3) hl9),rfl⟩
 obtain ⟨he6,a16,c16,rfl,hs14,hB3⟩:=hp
 have dn_:=JhX (KH x1) t ((JH s).drop 1)
 obtain ⟨a17,c17,a18,c18,a19,c19,r6,hs15,hs16,w16,w17,w18,w19,w20,w21,w22,hr6,rfl⟩:=hB3
 refine JC [(6,Sl a16 ((QF (KH x1) t ((JH s).drop 1)).2.1.length) c16)] (JK [1,2,3,4,5] [] [] [7] (List.forall_mem_nil _) (Ke ?_ K4))
 refine JD 7 [(26,Sl (At b8 0) 1 1),(32,Sl a16 ((QF (KH x1) t ((JH s).drop 1)).2.1.length) c16)] (fun X=>?_)
 refine JaT 33 9 2 (E:=ES) (J0.of_lit (E:=ES) (G:=G9) (b:=b8) [[Sr ([111,107])]] [[111,107]] ⟨⟨rfl,(Nat.le_of_ble_eq_true rfl)⟩,trivial⟩ (by simp)) hs14 (by have:=hs14.fit;simp only [ES] at this;(try simp only [List.length_append,List.length_cons,List.length_nil]);omega) (by have:=hs14.fit;simp only [ES] at this;(try simp only [ES,List.length_append,List.length_cons,List.length_nil]);omega) (fun a20 c20 r7 hr7=>JC [(7,Sl a20 ((([[111,107]]:List (List UInt8))++((QF (KH x1) t ((JH s).drop 1)).2.1)).length) c20)] (JK [1,2,3,4,5] [] [] [8] (List.forall_mem_nil _) (Ke ?_ K4)))
 refine JD 8 [(33,Sl a20 ((([[111,107]]:List (List UInt8))++((QF (KH x1) t ((JH s).drop 1)).2.1)).length) c20)] (fun X=>?_)
 refine WJ (E:=ES) 2 hr7 (by have q_:=W2 s;(try simp only [ES,List.length_append,List.length_cons,List.length_nil]);omega) (fun G10 hl10 hs17=>?_)
 obtain ⟨b9,o4,rfl⟩:=RS.addr hs17 (k:=0) (by simp)
 refine Jj 34 (Sr (Lib.join (([[111,107]]:List (List UInt8))++((QF (KH x1) t ((JH s).drop 1)).2.1)) [32])) (Jc4 G10 b9 o4 c20 (([[111,107]]:List (List UInt8))++((QF (KH x1) t ((JH s).drop 1)).2.1)) [32] hs17 (by simp) (by simp only [List.length_append,List.length_cons,List.length_nil];omega) (Jb9 _ _ _ (Jdu hs14))) (JC [(8,Sr (Lib.join (([[111,107]]:List (List UInt8))++((QF (KH x1) t ((JH s).drop 1)).2.1)) [32]))] (JK [1,2,3,4,5] [] [] [9] (List.forall_mem_nil _) (Ke ?_ K4)))
 refine JD 9 [(4,Pt b1 0),(34,Sr (Lib.join (([[111,107]]:List (List UInt8))++((QF (KH x1) t ((JH s).drop 1)).2.1)) [32]))] (fun X=>?_)
 exact KL 5 ([Sg b 0 (KK (QF (KH x1) t ((JH s).drop 1)).1 a17 c17 a18 c18 a19 c19)]::r6::[]::[Sg b3 0 [I (Yt (KH x1)),Fv (VL (KH x1)) #[]]]::[]::[Sg b1 0 [Sr (Lib.join (([[111,107]]:List (List UInt8))++((QF (KH x1) t ((JH s).drop 1)).2.1)) [32])]]::Lr) (Kc [] (Km [1,2,3,4,5] [] [] [(4,Pt b1 0)] (List.forall_mem_nil _) (Wb (a17,c17,a18,c18,a19,c19,r6,G10) ⟨(Jp.le_trans hl9 hl10),(hs15.mono hl10),(hs16.mono hl10),w16,w17,w18,w19,w20,w21,w22,(hr6.mono hl10),he6⟩)))
 refine JD 6 [(4,Pt b1 0),(28,Fv (VL (KH x1)) #[]),(29,Pt b 0),(31,Sl a14 (((JH s).drop 1).length) c14)] (fun X=>?_)
 refine Jx 4 (Jx 4 ?_)
 have hB_:JkE t G3 b [[Sg b 0 (KK t a_0 c_0 a_1 c_1 a_9 c_9)],r_9]:=⟨a_0,c_0,a_1,c_1,a_9,c_9,r_9,h_0.mono (Jp.le_trans (Jp.le_trans hl1 hl2) hl3),h_1.mono (Jp.le_trans (Jp.le_trans hl1 hl2) hl3),h_2,h_3,h_4,h_5,h_6,h_7,h_8,h_9.mono (Jp.le_trans (Jp.le_trans hl1 hl2) hl3),rfl⟩
 refine JaC (Ls:=[[Sg b 0 (KK t a_0 c_0 a_1 c_1 a_9 c_9)],r_9]) (Lr:=([Sg b3 0 [I (Yt (KH x1)),Fv (VL (KH x1)) #[]]]::[]::[Sg b1 0 [Sr ([])]]::Lr)) 32 (JhV _ J7) hT (Je2 (KH x1) J7 (by rw [Ws hx1];exact hS) G3 b t _ hB_ ht hn hk a14 c14 ((JH s).drop 1) hs12 (by intro hq_;rw [List.length_drop];simp_all;omega) (by rw [List.length_drop];have q2_:=W2 s;omega) (fun z_ hz_=>hsp z_ (List.mem_of_mem_drop hz_))) (fun v G11 L1 hl11 hp=>?_) (fun v G11 L1 hl11 hp=>?_)
 obtain ⟨hne5,rfl,rfl⟩:=hp
 refine KJ (KJ (Ji 4 ?_))
 have hq7:JaK t s=(QF (KH x1) t ((JH s).drop 1)).2.2:=by
  exact JgZ hx1 J7 (by omega)
 refine Jb7 ([Sg b1 0 [Sr ([101,114,114,32]++Lib.itoa ((QF (KH x1) t ((JH s).drop 1)).2.2))]]::([Sg b 0 (KK t a_0 c_0 a_1 c_1 a_9 c_9)]::r_9::[Sg b3 0 [I (Yt (KH x1)),Fv (VL (KH x1)) #[]]]::[]::Lr)) [0] [Sr ([101,114,114,32]++Lib.itoa ((QF (KH x1) t ((JH s).drop 1)).2.2))] (fun _=>by kernel_rfl) (fun w hw=>Jb8 _ _ _ _ (by rw [← hq7];exact Jbn t s) _ _ _ w hT hw) (bpx (KQ (Lr:=Lr) [[Sg b 0 (KK t a_0 c_0 a_1 c_1 a_9 c_9)],r_9] (Jp.le_trans (Jp.le_trans (Jp.le_trans hl1 hl2) hl3) hl11) ⟨?_,?_⟩))
 rw [Jat,hq7,if_pos hne5];rfl
 rw [ZD,hq7,if_pos hne5];exact ⟨a_0,c_0,a_1,c_1,a_9,c_9,r_9,h_0.mono (Jp.le_trans (Jp.le_trans (Jp.le_trans hl1 hl2) hl3) hl11),h_1.mono (Jp.le_trans (Jp.le_trans (Jp.le_trans hl1 hl2) hl3) hl11),h_2,h_3,h_4,h_5,h_6,h_7,h_8,h_9.mono (Jp.le_trans (Jp.le_trans (Jp.le_trans hl1 hl2) hl3) hl11),rfl⟩
 obtain ⟨he7,a21,c21,rfl,hs18,hB4⟩:=hp
 have dn_:=JhX (KH x1) t ((JH s).drop 1)
 obtain ⟨a22,c22,a23,c23,a24,c24,r8,hs19,hs20,w23,w24,w25,w26,w27,w28,w29,hr8,rfl⟩:=hB4
 refine JC [(6,Sl a21 ((QF (KH x1) t ((JH s).drop 1)).2.1.length) c21)] (JK [1,2,3,4,5] [] [] [0] (List.forall_mem_nil _) (Ke ?_ K4))
 refine JD 0 [] (fun X=>?_)
 refine Kq 26 1 #[Sr ([111,107])] 9 (fun b10=>JC [(0,Sl (At b10 0) 1 1)] (JK [1,2,3,4,5] [] [] [7] (List.forall_mem_nil _) (Ke ?_ K4)))
 refine JD 7 [(26,Sl (At b10 0) 1 1),(32,Sl a21 ((QF (KH x1) t ((JH s).drop 1)).2.1.length) c21)] (fun X=>?_)
 refine JaT 33 9 0 (E:=ES) (J0.of_lit (E:=ES) (G:=G11) (b:=b10) [[Sr ([111,107])]] [[111,107]] ⟨⟨rfl,(Nat.le_of_ble_eq_true rfl)⟩,trivial⟩ (by simp)) hs18 (by have:=hs18.fit;simp only [ES] at this;(try simp only [List.length_append,List.length_cons,List.length_nil]);omega) (by have:=hs18.fit;simp only [ES] at this;(try simp only [ES,List.length_append,List.length_cons,List.length_nil]);omega) (fun a25 c25 r9 hr9=>JC [(7,Sl a25 ((([[111,107]]:List (List UInt8))++((QF (KH x1) t ((JH s).drop 1)).2.1)).length) c25)] (JK [1,2,3,4,5] [] [] [8] (List.forall_mem_nil _) (Ke ?_ K4)))
 refine JD 8 [(33,Sl a25 ((([[111,107]]:List (List UInt8))++((QF (KH x1) t ((JH s).drop 1)).2.1)).length) c25)] (fun X=>?_)
 refine WJ (E:=ES) 0 hr9 (by have q_:=W2 s;(try simp only [ES,List.length_append,List.length_cons,List.length_nil]);omega) (fun G12 hl12 hs21=>?_)
 obtain ⟨b11,o5,rfl⟩:=RS.addr hs21 (k:=0) (by simp)
 refine Jj 34 (Sr (Lib.join (([[111,107]]:List (List UInt8))++((QF (KH x1) t ((JH s).drop 1)).2.1)) [32])) (Jc4 G12 b11 o5 c25 (([[111,107]]:List (List UInt8))++((QF (KH x1) t ((JH s).drop 1)).2.1)) [32] hs21 (by simp) (by simp only [List.length_append,List.length_cons,List.length_nil];omega) (Jb9 _ _ _ (Jdu hs18))) (JC [(8,Sr (Lib.join (([[111,107]]:List (List UInt8))++((QF (KH x1) t ((JH s).drop 1)).2.1)) [32]))] (JK [1,2,3,4,5] [] [] [9] (List.forall_mem_nil _) (Ke ?_ K4)))
 refine JD 9 [(4,Pt b1 0),(34,Sr (Lib.join (([[111,107]]:List (List UInt8))++((QF (KH x1) t ((JH s).drop 1)).2.1)) [32]))] (fun X=>?_)
 exact KL 5 ([]::[Sg b 0 (KK (QF (KH x1) t ((JH s).drop 1)).1 a22 c22 a23 c23 a24 c24)]::r8::[Sg b3 0 [I (Yt (KH x1)),Fv (VL (KH x1)) #[]]]::[]::[Sg b1 0 [Sr (Lib.join (([[111,107]]:List (List UInt8))++((QF (KH x1) t ((JH s).drop 1)).2.1)) [32])]]::Lr) (Kc [] (Km [1,2,3,4,5] [] [] [(4,Pt b1 0)] (List.forall_mem_nil _) (Ji 5 (Ji 5 (Ji 5 (Ji 3 (Ji 5 (Ji 5 (Wb (a22,c22,a23,c23,a24,c24,r8,G12) ⟨(Jp.le_trans hl11 hl12),(hs19.mono hl12),(hs20.mono hl12),w23,w24,w25,w26,w27,w28,w29,(hr8.mono hl12),he7⟩)))))))))
 obtain ⟨a17,c17,a18,c18,a19,c19,r6,G10⟩:=q_
 obtain ⟨hle2,hj11,hj12,hj13,hj14,hj15,hj16,hj17,hj18,hj19,hj20,he5⟩:=hs
 dsimp only at hle2 hj11 hj12 hj13 hj14 hj15 hj16 hj17 hj18 hj19 hj20 he5
 dsimp only
 refine Jl (Ji 1 (Ji 1 (Ji 5 ?_)))
 have hq8:JaK t s=0:=(JgZ hx1 (by omega) (by omega)).trans he5
 refine JlD [0] [Sr (Lib.join (([[111,107]]:List (List UInt8))++((QF (KH x1) t ((JH s).drop 1)).2.1)) [32])] (fun _=>by kernel_rfl) (fun w hw=>JlE _ b1 _ _ _ w hw) (bpx (KQ (Lr:=Lr) [[Sg b 0 (KK (QF (KH x1) t ((JH s).drop 1)).1 a17 c17 a18 c18 a19 c19)],r6] (Jp.le_trans (Jp.le_trans (Jp.le_trans hl1 hl2) hl3) hle2) ⟨?_,?_⟩))
 rw [Jat,hq8,if_neg (by simp),Ws hx1];rfl
 rw [ZD,hq8,if_neg (by simp),← Ws hx1];exact ⟨a17,c17,a18,c18,a19,c19,r6,hj11,hj12,hj13,hj14,hj15,hj16,hj17,hj18,hj19,hj20,rfl⟩
theorem Jjy (l:List J2) (n:List UInt8):(WY l n).1.length≤20:=by
 unfold WY
 split
 · simp
 ·
  rename_i h
  have hc:Kj l=0:=by
   unfold JG at h
   split at h
   · exact absurd rfl h
   · rename_i h1;exact Decidable.not_not.1 h1
  have ho:=K6.1 hc
  cases e:l[(JG l n).1.toNat]? with
  | none=>simp
  | some x =>
   have h3:=ho.ok x (List.mem_of_getElem? e)
   have h4:x.value.length≤20:=by
    unfold Ks at h3
    split at h3
    · cases h3
    ·
     split at h3
     · cases h3
     · omega
   simpa using h4
theorem Jgs (r:QB):(Jq r).1.length≤20:=by
 unfold Jq Qp
 split
 · simp
 split
 · simp
 · exact Jjy _ _
theorem JkH (c:Nat) (t:KO) (w:List (List UInt8)):JaJ (QF c t w).2.1:=by
 by_cases hc:c=8
 ·
  subst hc
  show JaJ (Zr t w).1
  unfold Zr
  split
  · exact WC
  split
  · exact WC
  split
  · exact WC
  split
  · exact WC
  split
  · exact ⟨by simp,by simp⟩
  ·
   refine ⟨by simp,fun x hx=>?_⟩
   simp only [List.mem_cons,List.mem_nil_iff,or_false] at hx
   rcases hx with rfl | rfl
   · simp
   · exact Nat.le_trans (Jgs _) (by decide)
 ·
  match c,hc with
  | 0,_ | 1,_ | 2,_ | 3,_ | 4,_ | 5,_ | 6,_=>exact WC
  | 7,_=>exact JfW t w
  | 8,h=>exact absurd rfl h
  | 9,_=>exact Jcs t w
  | 10,_=>exact JeC t w
  | 11,_=>exact JeD t w
  | _+12,_=>exact WC
theorem JoR (t:KO) (s:List UInt8):(Jat t s).length≤1000:=by
 unfold Jat
 split
 · have:=Je1 _ (Jbn t s);simp;omega
 ·
  rw [Lib.join_length]
  have h:=JkH (KH (VM (JH s) 0)) t ((JH s).drop 1)
  have:=JhW _ h.2
  have:=h.1
  simp [Lib.lens,okW] at *
  omega
theorem JmV (t:KO) (s:List UInt8):(Jat t s).length≤140737488351232:=Nat.le_trans (JoR t s) (by decide)
theorem Jjz (s:List UInt8) (h:s.length≤1048576):∀ x∈JH s,x.length≤1048576:=fun _ hx=>Nat.le_trans (Jfi hx) h
def JcR (t:KO):Prop:=t.deeds.length≤200∧t.setup.names.length≤1000∧t.setup.keys.length≤1000
theorem Jdv {t:KO} (s:KC) (h:JcR t):JcR (Zx t s).1:=by
 unfold Zx
 split
 · exact h
 split
 · exact h
 ·
  rename_i h2
  have:=V3 (JhN (Decidable.not_not.1 h2)).1
  exact ⟨h.1,by simp only;omega,by simp only;omega⟩
theorem JfY {t:KO} (l:List Qc) (h:JcR t):JcR (ZO t l).1:=by
 unfold ZO
 split
 · exact h
 · exact ⟨by simp only [List.length_append];omega,h.2⟩
theorem JcS {α:Type} {p:Prop} [Decidable p] {a b:KO×α} (ha:JcR a.1) (hb:JcR b.1):JcR (if p then a else b).1:=by split <;> assumption
theorem JoS (c:Nat) {t:KO} (w:List (List UInt8)) (h:JcR t):JcR (QF c t w).1:=by
 unfold QF
 split <;> dsimp only
 · exact JcS h (Jdv _ h)
 · exact JcS h (Jdv _ h)
 · exact JcS h (Jdv _ h)
 · exact JcS h (Jdv _ h)
 · exact JcS h (JfY _ h)
 · exact JcS h (JfY _ h)
 · exact JcS h (JfY _ h)
 all_goals exact h
theorem JoT {t:KO} (s:List UInt8) (h:JcR t):JcR (ZD t s):=by
 unfold ZD
 split
 · exact h
 · exact JoS _ _ h
def JjA (t:KO) (l:List (List UInt8)):KO:=l.foldl ZD t
def Jdw:KO→List (List UInt8)→List (List UInt8)
 | _,[]=>[]
 | t,s::l=>Jat t s::Jdw (ZD t s) l
theorem JjB:∀ (l:List (List UInt8)) {t:KO},JcR t→JcR (JjA t l)
 | [],_,h=>h
 | s::l,_,h=>JjB l (JoT s h)
theorem Jg0:∀ (l m:List (List UInt8)) (t:KO),Jdw t (l++m)=Jdw t l++Jdw (JjA t l) m
 | [],_,_=>rfl
 | s::l,m,t=>congrArg (Jat t s::·) (Jg0 l m (ZD t s))
theorem Jca:∀ (l:List (List UInt8)) (t:KO),(Jdw t l).length=l.length
 | [],_=>rfl
 | s::l,t=>congrArg (·+1) (Jca l (ZD t s))
theorem JmW {t:KO} {l:List (List UInt8)} {i:Nat} {x:List UInt8} (hx:l[i]? = some x):ZD (JjA t (l.take i)) x=JjA t (l.take (i+1)):=by
 rw [List.take_add_one,hx];simp [JjA]
theorem JkI {t:KO} {l:List (List UInt8)} {i:Nat} {x:List UInt8} (hx:l[i]? = some x):Jdw t (l.take i)++[Jat (JjA t (l.take i)) x]=Jdw t (l.take (i+1)):=by
 rw [List.take_add_one,hx,Jg0];rfl
def JjC:KO:=⟨⟨[],[],10,3,5,2,8,3,10⟩,[]⟩
theorem JmX:JcR JjC:=⟨by decide,by decide,by decide⟩
def WS (l:List (List UInt8)):List (List UInt8)×Int:=if l.length > 100 then ([],2) else (Jdw JjC l,0)
theorem do_c (G:Jp) (b:Nat) (t:KO) (a_0:Option Addr) (c_0:Nat) (a_1:Option Addr) (c_1:Nat) (a_9:Option Addr) (c_9:Nat) (r_9:List Kg) (h_0:RS ES G a_0 c_0 t.setup.names) (h_1:RS EU G a_1 c_1 t.setup.keys) (h_2:-9223372036854775808≤t.setup.most∧t.setup.most<9223372036854775808) (h_3:-9223372036854775808≤t.setup.batch∧t.setup.batch<9223372036854775808) (h_4:-9223372036854775808≤t.setup.every∧t.setup.every<9223372036854775808) (h_5:-9223372036854775808≤t.setup.least∧t.setup.least<9223372036854775808) (h_6:-9223372036854775808≤t.setup.top∧t.setup.top<9223372036854775808) (h_7:-9223372036854775808≤t.setup.lost∧t.setup.lost<9223372036854775808) (h_8:-9223372036854775808≤t.setup.reach∧t.setup.reach<9223372036854775808) (h_9:J0 WW G a_9 c_9 t.deeds r_9) (s:List UInt8) (hI:JcR t) (hls:s.length≤1048576) (hS:dS (KH (VM (JH s) 0))=true):YP Tryz.prog 27 #[Pt b 0,Sr s] G [[Sg b 0 [Sl a_0 t.setup.names.length c_0,Sl a_1 t.setup.keys.length c_1,I t.setup.most,I t.setup.batch,I t.setup.every,I t.setup.least,I t.setup.top,I t.setup.lost,I t.setup.reach,Sl a_9 t.deeds.length c_9]],r_9] (fun u G' L'=>((0:Int)=0)∧∃ (az1:Option Addr) (cz2:Nat) (az3:Option Addr) (cz4:Nat) (az5:Option Addr) (cz6:Nat) (rz7:List Kg),u=Sr (Jat t s)∧((Jat t s).length≤140737488351232)∧(RS ES G' az1 cz2 ((ZD t s).setup.names))∧(RS EU G' az3 cz4 ((ZD t s).setup.keys))∧(-9223372036854775808≤((ZD t s).setup.most)∧((ZD t s).setup.most)<9223372036854775808)∧(-9223372036854775808≤((ZD t s).setup.batch)∧((ZD t s).setup.batch)<9223372036854775808)∧(-9223372036854775808≤((ZD t s).setup.every)∧((ZD t s).setup.every)<9223372036854775808)∧(-9223372036854775808≤((ZD t s).setup.least)∧((ZD t s).setup.least)<9223372036854775808)∧(-9223372036854775808≤((ZD t s).setup.top)∧((ZD t s).setup.top)<9223372036854775808)∧(-9223372036854775808≤((ZD t s).setup.lost)∧((ZD t s).setup.lost)<9223372036854775808)∧(-9223372036854775808≤((ZD t s).setup.reach)∧((ZD t s).setup.reach)<9223372036854775808)∧(J0 WW G' az5 cz6 ((ZD t s).deeds) rz7)∧L'=[[Sg b 0 [Sl az1 (((ZD t s).setup.names).length) cz2,Sl az3 (((ZD t s).setup.keys).length) cz4,I ((ZD t s).setup.most),I ((ZD t s).setup.batch),I ((ZD t s).setup.every),I ((ZD t s).setup.least),I ((ZD t s).setup.top),I ((ZD t s).setup.lost),I ((ZD t s).setup.reach),Sl az5 (((ZD t s).deeds).length) cz6]],rz7]) (fun _ _ _=>False):=by
 exact YP.mono (do_con G b t a_0 c_0 a_1 c_1 a_9 c_9 r_9 h_0 h_1 h_2 h_3 h_4 h_5 h_6 h_7 h_8 h_9 hI.1 hI.2.1 hI.2.2 s hls hS (Jjz s hls)) (fun u G' L' hle ⟨hu,a_0z,c_0z,a_1z,c_1z,a_9z,c_9z,r_9z,q_0,q_1,q_2,q_3,q_4,q_5,q_6,q_7,q_8,q_9,hL⟩=>⟨rfl,a_0z,c_0z,a_1z,c_1z,a_9z,c_9z,r_9z,hu,JmV t s,q_0,q_1,q_2,q_3,q_4,q_5,q_6,q_7,q_8,q_9,hL⟩) (fun _ _ _ h=>h)
theorem JoU (G:Jp)  (a_l:Option Addr) (c_l:Nat) (l:List (List UInt8)) (h_l:RS ES G a_l c_l l) (hs:∀ s∈l,s.length≤1048576) (hS:∀ s∈l,dS (KH (VM (JH s) 0))=true):JaD Tryz.prog 9 #[Sl a_l l.length c_l] G [] (fun u G' L'=>((0:Int)=0)∧∃ (az1:Option Addr) (cz2:Nat),u=.tuple #[Sl az1 (((WS l).1).length) cz2,I ((WS l).2)]∧(RS ES G' az1 cz2 ((WS l).1))∧L'=[]) (fun _ _ _=>False):=by
 refine YM Tryz.func9 28 [(0,Sl a_l l.length c_l)] rfl (fun w0 G0 hT=>Jf [0,0] [] (Je (Jf [0,0,0] [(10,Bo (decide ((l.length:Int) > 100)))] (Jk (decide ((l.length:Int) > 100)) (fun h1=>?_) (fun h1=>?_)))))
 refine Jf [0,0] [(2,Sl none 0 0),(3,I 2)] (Jl (Jh ?_))
 have hf1:(0:Int)=0∧WS l=([],2):=by
  first | (unfold WS;rw [if_pos (by omega)];exact ⟨rfl,rfl⟩) | (unfold WS;rw [if_neg (by omega)];have q_:=List.take_of_length_le (i:=i) (l:=l) (by omega);rw [q_] at hxx;exact ⟨rfl,by rw [hxx]⟩)
 refine Jm [0,0] [Sl none 0 0,I 2] (bpx (Jy [] (Jp.le_refl _) ?_))
 rw [hf1.2]
 try dsimp only
 exact ⟨hf1.1,none,0,rfl,(RS.nil' ES G),rfl⟩
 refine Jo (Jb (Je (Jc (Ja [0,0] [(12,.agg #[Sl none 0 0,Sl none 0 0,I 10,I 3,I 5,I 2,I 8,I 3,I 10,Sl none 0 0])] (Jv 13 #[Sl none 0 0,Sl none 0 0,I 10,I 3,I 5,I 2,I 8,I 3,I 10,Sl none 0 0] 91 (fun b1=>Ja [0] [(4,Pt b1 0)] (Jd (Jb (Jf [0] [(5,Sl none 0 0)] (Je (Jf [0,0,0] [(14,Sl a_l l.length c_l),(15,I (l.length:Int)),(16,I 0)] (Jz (Yh (Yh ?_))))))))))))))
 have hlm_h_l:l.length≤9223372036854775807:=Nat.le_trans (h_l).le (h_l).max
 refine Qh (σ:=Nat×Option Addr×Nat×List Kg×List (List UInt8)×KO×Option Addr×Nat×Option Addr×Nat×Option Addr×Nat×List Kg×Jp) (fun q_=>(Jp.le G q_.2.2.2.2.2.2.2.2.2.2.2.2.2)∧(q_.1≤l.length)∧(J0 ES q_.2.2.2.2.2.2.2.2.2.2.2.2.2 q_.2.1 q_.2.2.1 q_.2.2.2.2.1 q_.2.2.2.1)∧(q_.2.2.2.2.1=Jdw JjC (l.take q_.1))∧(RS ES q_.2.2.2.2.2.2.2.2.2.2.2.2.2 q_.2.2.2.2.2.2.1 q_.2.2.2.2.2.2.2.1 q_.2.2.2.2.2.1.setup.names)∧(RS EU q_.2.2.2.2.2.2.2.2.2.2.2.2.2 q_.2.2.2.2.2.2.2.2.1 q_.2.2.2.2.2.2.2.2.2.1 q_.2.2.2.2.2.1.setup.keys)∧(J0 WW q_.2.2.2.2.2.2.2.2.2.2.2.2.2 q_.2.2.2.2.2.2.2.2.2.2.1 q_.2.2.2.2.2.2.2.2.2.2.2.1 q_.2.2.2.2.2.1.deeds q_.2.2.2.2.2.2.2.2.2.2.2.2.1)∧(rI q_.2.2.2.2.2.1.setup.most)∧(rI q_.2.2.2.2.2.1.setup.batch)∧(rI q_.2.2.2.2.2.1.setup.every)∧(rI q_.2.2.2.2.2.1.setup.least)∧(rI q_.2.2.2.2.2.1.setup.top)∧(rI q_.2.2.2.2.2.1.setup.lost)∧(rI q_.2.2.2.2.2.1.setup.reach)∧(q_.2.2.2.2.2.1=JjA JjC (l.take q_.1))) (fun q_=>[(4,Pt b1 0),(5,Sl q_.2.1 q_.2.2.2.2.1.length q_.2.2.1),(14,Sl a_l l.length c_l),(15,I (l.length:Int)),(16,I (q_.1:Int))]) (fun q_=>q_.2.2.2.2.2.2.2.2.2.2.2.2.2) (fun q_=>[q_.2.2.2.2.2.2.2.2.2.2.2.2.1,q_.2.2.2.1,[Sg b1 0 (KK q_.2.2.2.2.2.1 q_.2.2.2.2.2.2.1 q_.2.2.2.2.2.2.2.1 q_.2.2.2.2.2.2.2.2.1 q_.2.2.2.2.2.2.2.2.2.1 q_.2.2.2.2.2.2.2.2.2.2.1 q_.2.2.2.2.2.2.2.2.2.2.2.1)]]) (fun q_=>l.length-q_.1) (0,none,0,[],[],(⟨(⟨[],[],10,3,5,2,8,3,10⟩:KC),([]:List Qc)⟩:KO),none,0,none,0,none,0,[],G) ⟨(Jp.le_refl _),(by (try dsimp only);first | exact Nat.zero_le _ | omega | simp),(J0.none ES _),rfl,(RS.nil' ES G),(RS.nil' EU G),(J0.none WW _),(by (try dsimp only);first | assumption | omega | (simp;done) | (simp;omega)),(by (try dsimp only);first | assumption | omega | (simp;done) | (simp;omega)),(by (try dsimp only);first | assumption | omega | (simp;done) | (simp;omega)),(by (try dsimp only);first | assumption | omega | (simp;done) | (simp;omega)),(by (try dsimp only);first | assumption | omega | (simp;done) | (simp;omega)),(by (try dsimp only);first | assumption | omega | (simp;done) | (simp;omega)),(by (try dsimp only);first | assumption | omega | (simp;done) | (simp;omega)),(by (try dsimp only);first | rfl | simp [JjA,JjC])⟩ (fun q_ hs=>?_)
 obtain ⟨i,ax,cx,rx,xx,dt,adt0,cdt0,adt1,cdt1,adt2,cdt2,rdt9,g⟩:=q_
 obtain ⟨hle,hi,hrx,hxx,hdt0,hdt1,hdt9,hdt2,hdt3,hdt4,hdt5,hdt6,hdt7,hdt8,hD⟩:=hs
 dsimp only at hle hi hrx hxx hdt0 hdt1 hdt9 hdt2 hdt3 hdt4 hdt5 hdt6 hdt7 hdt8 hD
 dsimp only
 refine Jf [0] [(17,Bo (decide ((i:Int)<(l.length:Int))))] (Je (Jk (decide ((i:Int)<(l.length:Int))) (fun h2=>?_) (fun h2=>?_)))
 refine Jo (Jb (Je (Jz (Je (Jc ?_)))))
 obtain ⟨b2,o1,rfl⟩:=RS.addr (h_l.mono hle) (k:=i) (by omega)
 obtain ⟨x1,hx1⟩:=We (l:=l) (k:=i) (by omega)
 obtain ⟨_,⟨rfl,_⟩,hc1⟩:=RS.get (h_l.mono hle) hx1
 refine J3 (b:=b2) (off:=o1) (len:=l.length) (cap:=c_l) (ik:=.i64) 18 9 1 i J7 (JW 19 9 (cs:=[Sr x1]) 0 (Sr x1) hc1 (Ja [0] [(7,Sr x1)] (Jd (Jb (Jc (Ja [0,0,0] [(20,Sl ax xx.length cx),(21,Pt b1 0),(22,Sr x1)] (Jx 0 (Jx 2 (Vv (Ls:=[[Sg b1 0 (KK dt adt0 cdt0 adt1 cdt1 adt2 cdt2)],rdt9]) (Lr:=[rx]) 23 hT (do_c g b1 dt adt0 cdt0 adt1 cdt1 adt2 cdt2 rdt9 hdt0 hdt1 hdt2 hdt3 hdt4 hdt5 hdt6 hdt7 hdt8 hdt9 x1 (hD ▸ JjB (l.take i) JmX) (hs _ (List.mem_of_getElem? hx1)) (hS _ (List.mem_of_getElem? hx1))) (fun v G1 L1 hl1 hp=>?_))))))))))
 obtain ⟨_,a1,c1,a2,c2,a3,c3,r1,rfl,w2,hs1,hs2,_,_,_,_,_,_,_,hr1,rfl⟩:=hp
 refine Kq 24 1 #[Sr (Jat dt x1)] 9 (fun b3=>Qv (b:=b3) (cs:=[Sr (Jat dt x1)]) 25 9 3 0 (E:=ES) (Jat dt x1) (hrx.mono hl1) ⟨rfl,w2⟩ (by have q_:=congrArg List.length hxx;simp only [Jca,List.length_take] at q_;(try simp only [ES]);omega) (by have q_:=congrArg List.length hxx;simp only [Jca,List.length_take] at q_;(try simp only [ES]);omega) (fun a4 c4 r2 hr2=>Ja [0] [(5,Sl a4 ((xx++[Jat dt x1]).length) c4)] (Jd (JM (Jb (Jc (Ja [0,0] [(16,I (IntKind.i64.wrap ((i:Int)+1)))] (Kw 16 ((i:Int)+1) J7 (Jd (Ji 1 (Ji 3 (Ji 3 ?_))))))))))))
 exact QT [r1,r2,[Sg b1 0 (KK (ZD dt x1) a1 c1 a2 c2 a3 c3)]] (Qr (i+1,a4,c4,r2,xx++[Jat dt x1],(ZD dt x1),a1,c1,a2,c2,a3,c3,r1,G1) ⟨(Jp.le_trans hle hl1),J7,hr2,(by (try dsimp only);rw [hxx,hD,JkI hx1]),hs1,hs2,hr1,(by first | assumption | omega | (simp;done) | (simp;omega)),(by first | assumption | omega | (simp;done) | (simp;omega)),(by first | assumption | omega | (simp;done) | (simp;omega)),(by first | assumption | omega | (simp;done) | (simp;omega)),(by first | assumption | omega | (simp;done) | (simp;omega)),(by first | assumption | omega | (simp;done) | (simp;omega)),(by first | assumption | omega | (simp;done) | (simp;omega)),(by (try dsimp only);rw [hD,JmW hx1])⟩ (by (try dsimp only);omega))
 refine KW (JZ (J8 (JR (Jb (Jf [0,0,0] [(2,Sl ax xx.length cx),(3,I 0)] (Jl (WA (E:=ES) 1 hrx (by have q_:=congrArg List.length hxx;simp only [Jca,List.length_take] at q_;(try simp only [ES]);omega) (fun G2 hl2 hs3=>?_))))))))
 have hf2:(0:Int)=0∧WS l=(xx,0):=by
  first | (unfold WS;rw [if_pos (by omega)];exact ⟨rfl,rfl⟩) | (unfold WS;rw [if_neg (by omega)];have q_:=List.take_of_length_le (i:=i) (l:=l) (by omega);rw [q_] at hxx;exact ⟨rfl,by rw [hxx]⟩)
 refine Jm [0,0] [Sl ax xx.length cx,I 0] (bpx (Jy [] (Jp.le_trans hle hl2) ?_))
 rw [hf2.2]
 try dsimp only
 exact ⟨hf2.1,ax,cx,rfl,hs3,rfl⟩
theorem JmY {o:K2} {l:List JQ} {r:QB} (h:(JY o l r).1=0):r.proof.name=o.name:=by
 unfold JY at h
 by_cases h1:K1 o.head l=0
 ·
  rw [if_neg (by omega)] at h
  by_cases h2:(¬ (Jq r).2.2=0∨¬ r.head=WU l)∨¬ r.proof.name=o.name
  · rw [if_pos h2] at h;cases h
  · exact Decidable.not_not.1 fun hc=>h2 (.inr hc)
 · rw [if_pos h1] at h;exact absurd h h1
theorem JbS {o:K2} {l:List JQ} {r q:QB} (hr:∀ m∈r.proof.sides,0≤m) (hq:∀ m∈q.proof.sides,0≤m) (h:(Ju o l r).2.2=0) (hv:(Ju o l r).2.1=0) (hh:q.head=(Ju o l r).1.head) (hn:q.proof.name=o.name)
  (h1:(Jq q).2.2=0) (h2:(Jq q).2.1=true) (h3:(o.wanted.any fun x=>decide ((Jq q).1=x))=false):(J1 r q).2.2=0∧JaH (J1 r q).1 (J1 r q).2.1=true:=by
 obtain ⟨a1,a2,_,_,_,_,a7⟩:=JiT h hv
 obtain ⟨s1,s2,_⟩:=Jn6 h
 have e:=JmY (s2 ▸ hv)
 refine ((Ji3 hr hq).2 a1 h1 (by rw [hh,a2]) (by rw [hn,e])).2 ?_
 rintro ⟨q1,q2⟩
 obtain ⟨_,_,k,_,hw⟩:=a7 (by rw [q2,h2])
 have:=List.any_eq_false.1 h3 _ (List.mem_of_getElem? hw)
 rw [q1] at this
 simp at this
theorem JjD:WS [[111,119,110,101,114,32,97,32,55],[119,97,110,116,32,48,32,120],[116,105,99,107,32,53],[108,111,111,107,32,97,32,49]]=([[111,107],[111,107],[111,107],[111,107,32,43,32,120]],0):=by decide +kernel
theorem JjE {x y:JQ} (h:((x.epoch=y.epoch∧x.root=y.root)∧x.prev=y.prev)∧x.at_=y.at_):x=y:=by
 cases x;cases y;simp_all
theorem Jd9 (G:Jp)   :JaD Tryz.prog 15 #[] G [] (fun u G' L'=>((0:Int)=0)∧u=Bo true∧L'=[]) (fun _ _ _=>False):=by
 refine YM Tryz.func15 15 [] rfl (fun w0 G0 hT=>Jf [0] [] (Je (Jc (Kq 4 4 #[Sr ([111,119,110,101,114,32,97,32,55]),Sr ([119,97,110,116,32,48,32,120]),Sr ([116,105,99,107,32,53]),Sr ([108,111,111,107,32,97,32,49])] 9 (fun b1=>QV (b:=b1) (o:=0) (cs:=[Sr ([111,119,110,101,114,32,97,32,55]),Sr ([119,97,110,116,32,48,32,120]),Sr ([116,105,99,107,32,53]),Sr ([108,111,111,107,32,97,32,49])]) 0 (fun G1 hl1 hz1=>?_))))))
 have hs1:RS ES G1 (At b1 0) 4 [[111,119,110,101,114,32,97,32,55],[119,97,110,116,32,48,32,120],[116,105,99,107,32,53],[108,111,111,107,32,97,32,49]]:=RS.lit [[Sr ([111,119,110,101,114,32,97,32,55])],[Sr ([119,97,110,116,32,48,32,120])],[Sr ([116,105,99,107,32,53])],[Sr ([108,111,111,107,32,97,32,49])]] [[111,119,110,101,114,32,97,32,55],[119,97,110,116,32,48,32,120],[116,105,99,107,32,53],[108,111,111,107,32,97,32,49]] ⟨⟨rfl,(Nat.le_of_ble_eq_true rfl)⟩,⟨⟨rfl,(Nat.le_of_ble_eq_true rfl)⟩,⟨⟨rfl,(Nat.le_of_ble_eq_true rfl)⟩,⟨⟨rfl,(Nat.le_of_ble_eq_true rfl)⟩,trivial⟩⟩⟩⟩ hz1 (Nat.le_of_ble_eq_true rfl) (Nat.le_of_ble_eq_true rfl)
 refine Vv (Ls:=[]) (Lr:=[[]]) 5 hT ((JoU G1 (At b1 0) 4 ([[111,119,110,101,114,32,97,32,55],[119,97,110,116,32,48,32,120],[116,105,99,107,32,53],[108,111,111,107,32,97,32,49]]) hs1 (by simp) (by decide +kernel)).frame) (fun v G2 L1 hl2 hp=>?_)
 obtain ⟨_,a1,c1,rfl,hs2,rfl⟩:=hp
 refine Ja [0,0,0,0,0] [(1,Sl a1 (((WS ([[111,119,110,101,114,32,97,32,55],[119,97,110,116,32,48,32,120],[116,105,99,107,32,53],[108,111,111,107,32,97,32,49]])).1).length) c1),(2,I ((WS ([[111,119,110,101,114,32,97,32,55],[119,97,110,116,32,48,32,120],[116,105,99,107,32,53],[108,111,111,107,32,97,32,49]])).2))] (Jd (Jb (Je (Jc (Ja [0,0,0] [(10,Bo (decide ((WS ([[111,119,110,101,114,32,97,32,55],[119,97,110,116,32,48,32,120],[116,105,99,107,32,53],[108,111,111,107,32,97,32,49]])).2=0)))] (Qu [10] (decide ((WS ([[111,119,110,101,114,32,97,32,55],[119,97,110,116,32,48,32,120],[116,105,99,107,32,53],[108,111,111,107,32,97,32,49]])).2=0)) (fun h1=>?_) (fun h1=>?_)))))))
 refine Ja [0] [(11,Sl a1 (((WS ([[111,119,110,101,114,32,97,32,55],[119,97,110,116,32,48,32,120],[116,105,99,107,32,53],[108,111,111,107,32,97,32,49]])).1).length) c1)] (Kq 12 4 #[Sr ([111,107]),Sr ([111,107]),Sr ([111,107]),Sr ([111,107,32,43,32,120])] 9 (fun b2=>QV (b:=b2) (o:=0) (cs:=[Sr ([111,107]),Sr ([111,107]),Sr ([111,107]),Sr ([111,107,32,43,32,120])]) 0 (fun G3 hl3 hz2=>?_)))
 have hs3:RS ES G3 (At b2 0) 4 [[111,107],[111,107],[111,107],[111,107,32,43,32,120]]:=RS.lit [[Sr ([111,107])],[Sr ([111,107])],[Sr ([111,107])],[Sr ([111,107,32,43,32,120])]] [[111,107],[111,107],[111,107],[111,107,32,43,32,120]] ⟨⟨rfl,(Nat.le_of_ble_eq_true rfl)⟩,⟨⟨rfl,(Nat.le_of_ble_eq_true rfl)⟩,⟨⟨rfl,(Nat.le_of_ble_eq_true rfl)⟩,⟨⟨rfl,(Nat.le_of_ble_eq_true rfl)⟩,trivial⟩⟩⟩⟩ hz2 (Nat.le_of_ble_eq_true rfl) (Nat.le_of_ble_eq_true rfl)
 refine Jj 13 (Bo (decide ((WS ([[111,119,110,101,114,32,97,32,55],[119,97,110,116,32,48,32,120],[116,105,99,107,32,53],[108,111,111,107,32,97,32,49]])).1=[[111,107],[111,107],[111,107],[111,107,32,43,32,120]]))) (seq_ES G3 a1 c1 ((WS ([[111,119,110,101,114,32,97,32,55],[119,97,110,116,32,48,32,120],[116,105,99,107,32,53],[108,111,111,107,32,97,32,49]])).1) (hs2.mono hl3) (At b2 0) 4 ([[111,107],[111,107],[111,107],[111,107,32,43,32,120]]) hs3) (Ja [0,0] [(0,Bo (decide ((WS ([[111,119,110,101,114,32,97,32,55],[119,97,110,116,32,48,32,120],[116,105,99,107,32,53],[108,111,111,107,32,97,32,49]])).1=[[111,107],[111,107],[111,107],[111,107,32,43,32,120]])))] (Jd (Jb (Jl ?_))))
 have hf1:(0:Int)=0∧(decide ((WS ([[111,119,110,101,114,32,97,32,55],[119,97,110,116,32,48,32,120],[116,105,99,107,32,53],[108,111,111,107,32,97,32,49]])).1=[[111,107],[111,107],[111,107],[111,107,32,43,32,120]]))=true:=by
  exact ⟨rfl,by rw [JjD];rfl⟩
 refine Jm [0] [Bo (decide ((WS ([[111,119,110,101,114,32,97,32,55],[119,97,110,116,32,48,32,120],[116,105,99,107,32,53],[108,111,111,107,32,97,32,49]])).1=[[111,107],[111,107],[111,107],[111,107,32,43,32,120]]))] (bpx (Jy [] (Jp.le_trans (Jp.le_trans hl1 hl2) hl3) ?_))
 rw [hf1.2]
 try dsimp only
 exact ⟨hf1.1,rfl,rfl⟩
 refine Ja [1,1,1,0,0] [(0,Bo false)] (Jd (Jb (Jl ?_)))
 have hf2:(0:Int)=0∧false=true:=by
  exact absurd (by rw [JjD]) h1
 refine Jm [0] [Bo false] (bpx (Jy [] (Jp.le_trans hl1 hl2) ?_))
 rw [hf2.2]
 try dsimp only
 exact ⟨hf2.1,rfl,rfl⟩
theorem JfZ (G:Jp)  (vs_o:List Value) (o:K2) (h_o:Q1.R G vs_o o) (a_l:Option Addr) (c_l:Nat) (l:List JQ) (h_l:RS KA G a_l c_l l) (vs_r:List Value) (r:QB) (h_r:Jbz.R G vs_r r) (vs_other:List Value) (other:QB) (h_other:Jbz.R G vs_other other) (hf_l:l.length*32≤140737488351232):JaD Tryz.prog 7 #[.agg vs_o.toArray,Sl a_l l.length c_l,.agg vs_r.toArray,.agg vs_other.toArray] G [] (fun u G' L'=>((0:Int)=0)∧u=Bo true∧L'=[]) (fun _ _ _=>False):=by
 obtain ⟨a1,c1,rfl,w1,w2,w3,w4,w5,w6,hs1,w7⟩:=h_o
 obtain ⟨a2,c2,a3,c3,rfl,w8,w9,w10,w11,w12,hs2,hs3⟩:=h_r
 obtain ⟨a4,c4,a5,c5,rfl,_,_,_,_,_,hs4,hs5⟩:=h_other
 refine YM Tryz.func7 84 [(0,(Ku o a1 c1)),(1,Sl a_l l.length c_l),(2,(Q9 r a2 c2 a3 c3)),(3,(Q9 other a4 c4 a5 c5))] rfl (fun w0 G0 hT=>Je (Jc (Jv 4 #[Sr o.name,U o.key,I o.head.epoch,U o.head.root,U o.head.prev,I o.head.at_,Sl a1 o.wanted.length c1,I o.had] 76 (fun b1=>Jv 6 #[I r.head.epoch,U r.head.root,U r.head.prev,I r.head.at_,Sr r.proof.name,Sl a2 r.proof.entries.length c2,Sl a3 r.proof.sides.length c3] 49 (fun b2=>Jv 7 #[I other.head.epoch,U other.head.root,U other.head.prev,I other.head.at_,Sr other.proof.name,Sl a4 other.proof.entries.length c4,Sl a5 other.proof.sides.length c5] 49 (fun b3=>Ja [0] [] (Jd (Jb (Je (Jc (Ja [6,0,4] [(19,(Ku o a1 c1)),(20,Sl a_l l.length c_l),(21,(Q9 r a2 c2 a3 c3))] (JF 22 (Jbf G (KE o a1 c1) o (⟨a1,c1,rfl,w1,w2,w3,w4,w5,w6,hs1,w7⟩) a_l c_l l h_l (Wp r a2 c2 a3 c3) r (⟨a2,c2,a3,c3,rfl,w8,w9,w10,w11,w12,hs2,hs3⟩)) (fun v G1 L1 hl1 hp=>?_)))))))))))))
 obtain ⟨a6,c6,rfl,_,_,_,_,_,_,_,_,rfl⟩:=hp
 refine Ja [0,0,0,0] [(23,(Ku (Ju o l r).1 a6 c6)),(24,I ((Ju o l r).2.1)),(25,I ((Ju o l r).2.2))] (Jv 9 #[Sr ([]),U 0,I 0,U 0,U 0,I 0,Sl none 0 0,I 0] 76 (fun b4=>JV [3,0,0] [(10,I ((Ju o l r).2.1)),(11,I ((Ju o l r).2.2))] [[Sg b4 0 (KE (Ju o l r).1 a6 c6)],[Sg b3 0 (Wp other a4 c4 a5 c5)],[Sg b2 0 (Wp r a2 c2 a3 c3)],[Sg b1 0 (KE o a1 c1)]] (Jd (Jb (Je (Je (Jc (Vv (Ls:=[]) (Lr:=[[Sg b4 0 (KE (Ju o l r).1 a6 c6)],[Sg b3 0 (Wp other a4 c4 a5 c5)],[Sg b2 0 (Wp r a2 c2 a3 c3)],[Sg b1 0 (KE o a1 c1)]]) 26 hT ((Jd9 G1).frame) (fun v G2 L1 hl2 hp=>?_)))))))))
 obtain ⟨_,rfl,rfl⟩:=hp
 refine Ja [0,0,0,0,0,0] [(32,Bo (!decide ((Ju o l r).2.2=0)))] (Kn (!decide ((Ju o l r).2.2=0)) [32] [1,1,0] [0,0,0] (fun bb=>[(35,Bo (bb || (!decide ((Ju o l r).2.1=0))))]) (Ja [0] [(36,Bo ((!decide ((Ju o l r).2.2=0)) || (!decide ((Ju o l r).2.1=0))))] (Qu [36] ((!decide ((Ju o l r).2.2=0)) || (!decide ((Ju o l r).2.1=0))) (fun h1=>?_) (fun h1=>?_))))
 refine Ja [1,1,1,1,1,0,0,1,1,1,1,1,1,0] [(50,Bo true)] (Jd (Jb (JU (Je (Jc (Vv (Ls:=[]) (Lr:=[[Sg b4 0 (KE (Ju o l r).1 a6 c6)],[Sg b3 0 (Wp other a4 c4 a5 c5)],[Sg b2 0 (Wp r a2 c2 a3 c3)],[Sg b1 0 (KE o a1 c1)]]) 51 hT ((Jd9 G2).frame) (fun v G3 L1 hl3 hp=>?_)))))))
 obtain ⟨_,rfl,rfl⟩:=hp
 refine Ja [0] [(8,Bo true)] (Jd (Jb (Jl (Jh ?_))))
 have hf1:(0:Int)=0∧true=true:=by
  exact ⟨rfl,rfl⟩
 refine Jm [0] [Bo true] (bpx (Jy [] (Jp.le_trans (Jp.le_trans hl1 hl2) hl3) ?_))
 rw [hf1.2]
 try dsimp only
 exact ⟨hf1.1,rfl,rfl⟩
 refine Ja [0,4,0,2] [(38,(Y9 other.head)),(40,(Y9 (Ju o l r).1.head))] (JaR 41 (Bo (!(decide (other.head.epoch=((Ju o l r).1).head.epoch) && (decide (other.head.root=((Ju o l r).1).head.root) && (decide (other.head.prev=((Ju o l r).1).head.prev) && (decide (other.head.at_=((Ju o l r).1).head.at_) && true)))))) (Bo (!(decide (other.head.epoch=((Ju o l r).1).head.epoch) && decide (other.head.root=((Ju o l r).1).head.root) && decide (other.head.prev=((Ju o l r).1).head.prev) && decide (other.head.at_=((Ju o l r).1).head.at_)))) (by simp [Qj,Bool.and_assoc]) (Ja [0,0] [(43,Bo (!(decide (other.head.epoch=((Ju o l r).1).head.epoch) && decide (other.head.root=((Ju o l r).1).head.root) && decide (other.head.prev=((Ju o l r).1).head.prev) && decide (other.head.at_=((Ju o l r).1).head.at_))))] (Kn (!(decide (other.head.epoch=((Ju o l r).1).head.epoch) && decide (other.head.root=((Ju o l r).1).head.root) && decide (other.head.prev=((Ju o l r).1).head.prev) && decide (other.head.at_=((Ju o l r).1).head.at_))) [43] [1,1,1,1,1,1,0] [0,0,4,0,8,0,0] (fun bb=>[(50,Bo (bb || (!((B other.proof.name).toList == (B o.name).toList))))]) (KI 50 (Bo ((!(decide (other.head.epoch=((Ju o l r).1).head.epoch) && decide (other.head.root=((Ju o l r).1).head.root) && decide (other.head.prev=((Ju o l r).1).head.prev) && decide (other.head.at_=((Ju o l r).1).head.at_))) || (!(other.proof.name == o.name)))) (show (Bo ((!(decide (other.head.epoch=((Ju o l r).1).head.epoch) && decide (other.head.root=((Ju o l r).1).head.root) && decide (other.head.prev=((Ju o l r).1).head.prev) && decide (other.head.at_=((Ju o l r).1).head.at_))) || (!((B other.proof.name).toList == (B o.name).toList))):Value)=Bo ((!(decide (other.head.epoch=((Ju o l r).1).head.epoch) && decide (other.head.root=((Ju o l r).1).head.root) && decide (other.head.prev=((Ju o l r).1).head.prev) && decide (other.head.at_=((Ju o l r).1).head.at_))) || (!(other.proof.name == o.name))) by simp only [Qj]) (Jd (Jb (Jk ((!(decide (other.head.epoch=((Ju o l r).1).head.epoch) && decide (other.head.root=((Ju o l r).1).head.root) && decide (other.head.prev=((Ju o l r).1).head.prev) && decide (other.head.at_=((Ju o l r).1).head.at_))) || (!(other.proof.name == o.name))) (fun h2=>?_) (fun h2=>?_))))))))
 refine Je (Jc (Vv (Ls:=[]) (Lr:=[[Sg b4 0 (KE (Ju o l r).1 a6 c6)],[Sg b3 0 (Wp other a4 c4 a5 c5)],[Sg b2 0 (Wp r a2 c2 a3 c3)],[Sg b1 0 (KE o a1 c1)]]) 51 hT ((Jd9 G2).frame) (fun v G4 L1 hl4 hp=>?_)))
 obtain ⟨_,rfl,rfl⟩:=hp
 refine Ja [0] [(8,Bo true)] (Jd (Jb (Jl (Jh ?_))))
 have hf2:(0:Int)=0∧true=true:=by
  exact ⟨rfl,rfl⟩
 refine Jm [0] [Bo true] (bpx (Jy [] (Jp.le_trans (Jp.le_trans hl1 hl2) hl4) ?_))
 rw [hf2.2]
 try dsimp only
 exact ⟨hf2.1,rfl,rfl⟩
 refine Jo (Jb (Je (Jc (Ja [4] [(53,(Q9 other a4 c4 a5 c5))] (JF 54 (YZ G2 (Wp other a4 c4 a5 c5) other (⟨a4,c4,a5,c5,rfl,‹_›,‹_›,‹_›,‹_›,‹_›,(hs4.mono (Jp.le_trans hl1 hl2)),(hs5.mono (Jp.le_trans hl1 hl2))⟩)) (fun v G5 L1 hl5 hp=>?_))))))
 obtain ⟨rfl,_,rfl⟩:=hp
 refine Ja [0,0,0,0,0,0,0] [(12,Sr ((Jq other).1)),(13,Bo ((Jq other).2.1)),(14,I ((Jq other).2.2))] (Jd (Jb (Je (Je (Jc (Ja [0,0,0] [(60,Bo (!decide ((Jq other).2.2=0)))] (Kn (!decide ((Jq other).2.2=0)) [60] [1,1,0] [0,0,0] (fun bb=>[(63,Bo (bb || (!((Jq other).2.1))))]) (Ja [0] [(64,Bo ((!decide ((Jq other).2.2=0)) || (!((Jq other).2.1))))] (Qu [64] ((!decide ((Jq other).2.2=0)) || (!((Jq other).2.1))) (fun h3=>?_) (fun h3=>?_))))))))))
 refine Ja [1,1,1,1,0] [(69,Bo true)] (Jd (Jb (JU (Jf [0] [(8,Bo true)] (Jl (Jh ?_))))))
 have hf3:(0:Int)=0∧true=true:=by
  exact ⟨rfl,rfl⟩
 refine Jm [0] [Bo true] (bpx (Jy [] (Jp.le_trans (Jp.le_trans hl1 hl2) hl5) ?_))
 rw [hf3.2]
 try dsimp only
 exact ⟨hf3.1,rfl,rfl⟩
 refine Ja [0,8,0] [(66,Sl a1 o.wanted.length c1),(67,Sr ((Jq other).1))] (Jj 68 (Bo (o.wanted.any (fun x=>decide ((Jq other).1=x)))) (Jk7 G5 a1 c1 o.wanted (hs1.mono (Jp.le_trans (Jp.le_trans hl1 hl2) hl5)) ((Jq other).1)) (Ja [0] [(69,Bo (o.wanted.any (fun x=>decide ((Jq other).1=x))))] (Jd (Jb (Jk (o.wanted.any (fun x=>decide ((Jq other).1=x))) (fun h4=>?_) (fun h4=>?_))))))
 refine Jf [0] [(8,Bo true)] (Jl (Jh ?_))
 have hf4:(0:Int)=0∧true=true:=by
  exact ⟨rfl,rfl⟩
 refine Jm [0] [Bo true] (bpx (Jy [] (Jp.le_trans (Jp.le_trans hl1 hl2) hl5) ?_))
 rw [hf4.2]
 try dsimp only
 exact ⟨hf4.1,rfl,rfl⟩
 refine Jo (Jb (Je (Jc (Ja [6,4] [(71,(Q9 r a2 c2 a3 c3)),(72,(Q9 other a4 c4 a5 c5))] (JF 73 (Jd2 G5 (Wp r a2 c2 a3 c3) r (⟨a2,c2,a3,c3,rfl,‹_›,‹_›,‹_›,‹_›,‹_›,(hs2.mono (Jp.le_trans (Jp.le_trans hl1 hl2) hl5)),(hs3.mono (Jp.le_trans (Jp.le_trans hl1 hl2) hl5))⟩) (Wp other a4 c4 a5 c5) other (⟨a4,c4,a5,c5,rfl,‹_›,‹_›,‹_›,‹_›,‹_›,(hs4.mono (Jp.le_trans (Jp.le_trans hl1 hl2) hl5)),(hs5.mono (Jp.le_trans (Jp.le_trans hl1 hl2) hl5))⟩)) (fun v G6 L1 hl6 hp=>?_))))))
 obtain ⟨rfl,w26,w27,rfl⟩:=hp
 refine Ja [0,0,0,0,0,0,0] [(15,Sr ((J1 r other).1)),(16,Sr ((J1 r other).2.1)),(17,I ((J1 r other).2.2))] (Jd (Jb (Je (Jc (Ja [0,0,0] [(79,Bo (decide ((J1 r other).2.2=0)))] (Qu [79] (decide ((J1 r other).2.2=0)) (fun h5=>?_) (fun h5=>?_)))))))
 refine Ja [0,0] [(80,Sr ((J1 r other).1)),(81,Sr ((J1 r other).2.1))] (Jj 82 (Bo (!(((J1 r other).1) == ((J1 r other).2.1)) && decide (Jg ((J1 r other).1)=Jg ((J1 r other).2.1)))) (Jcg ((J1 r other).1) ((J1 r other).2.1) (Vx w26) (Vx w27) G6) (Ja [0,0] [(8,Bo (!(((J1 r other).1) == ((J1 r other).2.1)) && decide (Jg ((J1 r other).1)=Jg ((J1 r other).2.1))))] (Jd (Jb (Jl ?_)))))
 have hf5:(0:Int)=0∧(!(((J1 r other).1) == ((J1 r other).2.1)) && decide (Jg ((J1 r other).1)=Jg ((J1 r other).2.1)))=true:=by
  (have q_:=JbS (Jbg hs3) (Jbg hs5) h1.1 h1.2 (JjE h2.1) h2.2 h3.1 h3.2 h4;exact ⟨rfl,q_.2⟩)
 refine Jm [0] [Bo (!(((J1 r other).1) == ((J1 r other).2.1)) && decide (Jg ((J1 r other).1)=Jg ((J1 r other).2.1)))] (bpx (Jy [] (Jp.le_trans (Jp.le_trans (Jp.le_trans hl1 hl2) hl5) hl6) ?_))
 rw [hf5.2]
 try dsimp only
 exact ⟨hf5.1,rfl,rfl⟩
 refine Ja [1,1,1,0,0] [(8,Bo false)] (Jd (Jb (Jl ?_)))
 have hf6:(0:Int)=0∧false=true:=by
  (have q_:=JbS (Jbg hs3) (Jbg hs5) h1.1 h1.2 (JjE h2.1) h2.2 h3.1 h3.2 h4;exact absurd q_.1 ‹_›)
 refine Jm [0] [Bo false] (bpx (Jy [] (Jp.le_trans (Jp.le_trans (Jp.le_trans hl1 hl2) hl5) hl6) ?_))
 rw [hf6.2]
 try dsimp only
 exact ⟨hf6.1,rfl,rfl⟩
open Go.ChangeShapes Go.WideShapes Go.ChangeAt Go.RowKit
theorem Jct {P:Program} {W:World} {n nm:String} {d:DataW Unit} {r:List (String×DataW Unit)} {g:Nat} {ti:TypeId} {ms:Array (String×TypeId)} (h:laidMet P ((n,.iface nm d)::r) W)
  (hg:P.globalNamed n=some g) (ht:(P.globals[g]?).map (·.type)=some ti) (hi:P.underlying ti=some (.interface ms)):Jid P W n:=by
 obtain ⟨ps,⟨g0,t0,cs0,f0,p0,q0,hg0,ht0,hv0,hd0,_,e0⟩,_,_⟩:=h
 obtain rfl:=Option.some.inj (hg.symm.trans hg0)
 obtain rfl:=Option.some.inj (ht.symm.trans ht0)
 obtain ⟨f1,u,v,hc,hn,h1⟩:=iface_of_trod hi hd0
 refine ⟨g,.iface u v,hg,?_,.inr ⟨u,v,rfl⟩⟩
 have:=World.var?_cell hg0 hv0 0
 rw [← Array.getElem?_toList,hc] at this
 simpa using this
section
variable {P:Program} {G:Jp}
theorem JkJ {P:Program} {f:FuncId} {args:Array Value} {W:World} (hT:TW P W) (hc:JaD P f args (Jbp W) [] (fun u _ _=>u=Bo true) (fun _ _ _=>False)) :
  Calls P f args W fun e W'=>e=.returned (.bool true)∧Below W.heap.size W W':=by
 refine (hc W (Jbp W) W hT (St.start fun b o v h=>h)).mono ?_
 rintro e W' ⟨v,G',L',hS,_,⟨rfl,rfl⟩ | ⟨_,h⟩⟩
 · exact ⟨rfl,hS.below⟩
 · exact h.elim
theorem Jgt {H:Type} {enc:TypeId×Value→H} {f:Func} {k:FuncId} {s:ChangeSpec} {t:TypeId} {fresh handsOn again:Bool} (N:Nat) (hlo:laidOutB P=true)
  (hr:Jif P f.params.toList=true) (hv:s.vars=[])
  (ho:∀ ds:List (DataW H),ds.length=f.params.toList.length→s.fn H ds={ results:=[.lit (.bool true)],args:=ds }) (ht:f.resultTypes=#[t]) (hu:P.underlying t=some .bool)
  (W:World) (base:Nat) (args:Array Value) (ds gs:List (DataW H)) (before:List MemPlace)
  (hval:∀ (j:Nat) t v,f.params[j]? = some t→args[j]? = some v→Value.okWide P W .any base t v)
  (hW:DataW.Whole enc P f.params.toList s.vars false W args.toList ds gs before)
  (hcon:∀ n,n≤N→RdA P (Jbp W) f.params.toList args.toList n→Calls P k args W fun e W'=>e=.returned (.bool true)∧Below W.heap.size W W')
  (hN:Rows.uptoBulkAll (ds++gs)≤N)
  (hsz:(DataW.weightsEach P (f.params.toList++s.plain.varTypes P) (ds++gs)).all (·≤reachBytes)=true) :
  Calls P k args W fun e W'=>∃ v,e=.returned v∧s.post enc P f false fresh handsOn again W args v W':=by
 have hW':=hW
 obtain ⟨p,q,hA,hV,rfl,hfz,hnd⟩:=hW
 rw [hv] at hV
 obtain ⟨rfl,rfl⟩:=trodVars_none hV
 have hvt:s.plain.varTypes P=[]:=by simp [DataSpec.varTypes,ChangeSpec.plain,hv]
 rw [hvt,List.append_nil,List.append_nil] at hsz
 rw [List.append_nil] at hN
 have hlen:∀ (ts:List TypeId) (vs:List Value) (ds:List (DataW H)) (ps:List MemPlace),DataW.TrodAll enc P W 0 (fun _=>true) true ts vs ds ps→ds.length=ts.length:=by
  intro ts
  induction ts with
  | nil=>intro vs ds ps h;have:=(trodAll_nil h).2.1;subst this;rfl
  | cons t ts ih =>
   intro vs ds ps h
   obtain ⟨v,vs',d,ds',p,q,rfl,rfl,rfl,h1,h2⟩:=trodAll_cons h
   simp [ih _ _ _ h2]
 have hR:=Jnr (base:=base) _ _ _ _ hA (Jns hval) (all_le hsz)
 refine (hcon _ hN hR).mono ?_
 rintro e W' ⟨rfl,hb⟩
 exact ⟨_,rfl,Jnp hlo hr hv hW' (ho ds (hlen _ _ _ _ hA)) ht hu hb⟩
end
end Go.Proofs.YteaampgpgokjmaaGreatDoor
