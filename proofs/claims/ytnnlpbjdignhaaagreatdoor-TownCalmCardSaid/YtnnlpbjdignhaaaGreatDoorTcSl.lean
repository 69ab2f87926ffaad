import Derived.Test.YtnnlpbjdignhaaaGreatDoorTcTy
namespace Go.Proofs.YtnnlpbjdignhaaaGreatDoor
open Go.Tx
set_option linter.unusedVariables false
set_option linter.unusedSimpArgs false
theorem JaU {x y:JR}:x=y ↔ x.epoch=y.epoch∧x.root=y.root∧x.prev=y.prev∧x.at_=y.at_:=by cases x;cases y;simp
theorem JfN {α:Type} {p:α→Bool} {l:List α} {i:Nat} (h:K9 p l=(i:Int)):∃ x,l[i]? = some x∧p x=true:=by
 unfold K9 at h
 cases hh:l.findIdx? p with
 | none=>rw [hh] at h;simp at h
 | some k =>
  rw [hh] at h
  have:k=i:=by simp at h;omega
  subst this
  rw [List.findIdx?_eq_some_iff_getElem] at hh
  obtain ⟨h1,h2,_⟩:=hh
  exact ⟨l[k],List.getElem?_eq_getElem h1,h2⟩
theorem JfO (G:Jt) (a_l:Option Addr) (c_l:Nat) (l:List Ym) (h_l:RS Q1 G a_l c_l l) (k_f:FuncId) (caps_f:Array Value) (p_f:Ym→Bool) (hk_f:VR Tryz.prog k_f) (h_f:∀ (vs0:List Value) (x0:Ym) (hx0:Q1.R G vs0 x0),QF Tryz.prog k_f (#[.agg vs0.toArray]++caps_f) G [] (fun u _ _=>u=Bo (p_f x0))) :QF Tryz.prog 46 #[Sl a_l l.length c_l,.func (.func k_f) #[] caps_f] G [] (fun u G' L'=>u=I (K9 p_f l)):=by
 refine JJ Tryz.func46 19 [(0,Sl a_l l.length c_l),(1,.func (.func k_f) #[] caps_f)] rfl (fun w0 G0=>?_)
 refine Jg [0] [(0,Sl a_l l.length c_l),(1,.func (.func k_f) #[] caps_f)] (Je (Jg [0,0,0] [(0,Sl a_l l.length c_l),(1,.func (.func k_f) #[] caps_f),(7,I (l.length:Int)),(8,I 0)] (Jz ?_)))
 have hlm_h_l:l.length≤9223372036854775807:=Nat.le_trans (h_l).le (h_l).max
 refine Qc (σ:=Nat) (fun q_=>(q_≤l.length)∧((l.take q_).any p_f=false)) (fun q_=>[(0,Sl a_l l.length c_l),(1,.func (.func k_f) #[] caps_f),(7,I (l.length:Int)),(8,I (q_:Int))]) (fun q_=>G) (fun q_=>[]) (fun q_=>l.length-q_) 0 ⟨(by (try dsimp only);exact Nat.zero_le _),(by (try dsimp only);simp)⟩ (fun q_ hs=>?_)
 revert hs;revert q_;intro i hs
 obtain ⟨hi,hn⟩:=hs
 refine KQ (fr':=[(0,Sl a_l l.length c_l),(1,.func (.func k_f) #[] caps_f),(7,I (l.length:Int)),(8,I (i:Int))]) (L':=[]) rfl rfl (Jg [0] [(0,Sl a_l l.length c_l),(1,.func (.func k_f) #[] caps_f),(7,I (l.length:Int)),(8,I (i:Int)),(9,Bo (decide ((i:Int)<(l.length:Int))))] (Je (Jo (decide ((i:Int)<(l.length:Int))) (fun h1=>?_) (fun h1=>?_))))
 try simp only [BB] at h1
 refine Jm (Ja (Je (Jz (Jg [0,0] [(0,Sl a_l l.length c_l),(1,.func (.func k_f) #[] caps_f),(5,I (i:Int)),(7,I (l.length:Int)),(8,I (i:Int))] (Je (Jb (Jd [0,0,0] [(0,Sl a_l l.length c_l),(1,.func (.func k_f) #[] caps_f),(5,I (i:Int)),(7,I (l.length:Int)),(8,I (i:Int)),(11,.func (.func k_f) #[] caps_f),(12,Sl a_l l.length c_l),(13,I (i:Int))] ?_)))))))
 obtain ⟨b1,o1,rfl⟩:=RS.addr h_l (k:=i) (by omega)
 obtain ⟨x1,hx1⟩:=Wh (l:=l) (k:=i) (by omega)
 obtain ⟨_,⟨rfl,w1,w2,w3,w4⟩,hc1⟩:=RS.get h_l hx1
 refine Kh (b:=b1) (off:=o1) (len:=l.length) (cap:=c_l) (ik:=.i64) 14 60 4 i (by omega) (Ka 15 60 (cs:=[I x1.kind,I x1.who,I x1.n,I x1.at_]) 0 (.agg #[I x1.kind,I x1.who,I x1.n,I x1.at_]) hc1 (W2 (k:=k_f) (caps:=caps_f) (args:=#[.agg #[I x1.kind,I x1.who,I x1.n,I x1.at_]]) 16 (Bo (p_f x1)) hk_f (h_f [I x1.kind,I x1.who,I x1.n,I x1.at_] x1 (⟨rfl,w1,w2,w3,w4⟩)) (Jc (Ja (Jo (p_f x1) (fun h2=>?_) (fun h2=>?_))))))
 try simp only [BB] at h2
 refine Jg [0,0] [(4,I (i:Int))] (Jk (Js (Jh (QC (Js (Jh (Jl [0] [I (i:Int)] (Jv (Jt.le_refl _) ?_))))))))
 have hf_:(K9 p_f l)=(i:Int):=by
  exact Yg hx1 (by simpa using h2) hn
 · (try rw [hf_]);(simp only [JL];done)
 try simp only [BB] at h2
 refine Jm (JM (Ja (Jb (Jd [0,0] [(0,Sl (At b1 o1) l.length c_l),(1,.func (.func k_f) #[] caps_f),(7,I (l.length:Int)),(8,I (IntKind.i64.wrap ((i:Int)+1)))] ?_))))
 have e1:IntKind.i64.wrap ((i:Int)+1)=(i:Int)+1:=IntWalk.i64_in _ (by omega)
 refine J3 (fr':=[(0,Sl (At b1 o1) l.length c_l),(1,.func (.func k_f) #[] caps_f),(7,I (l.length:Int)),(8,I ((i:Int)+1))]) (L':=[]) (by simp only [e1]) (by rfl) ?_
 clear e1
 exact Jc (Qg (i+1) ⟨(by omega),(YJ hx1 (by simpa using h2) hn)⟩ (by (try dsimp only);omega))
 try simp only [BB] at h1
 refine K0 (J2 (Kf (JU (Ja (Jg [0] [(4,I (-1))] (Jk (Jl [0] [I (-1)] (Jv (Jt.le_refl _) ?_))))))))
 have hf_:(K9 p_f l)=(-1):=by
  exact ZT (by rw [List.take_of_length_le (by omega)] at hn;exact hn)
 · (try rw [hf_]);(simp only [JL];done)
theorem JgM (G:Jt) (a_l:Option Addr) (c_l:Nat) (l:List Ym) (h_l:RS Q1 G a_l c_l l) (k_f:FuncId) (caps_f:Array Value) (p_f:Ym→Bool) (hk_f:VR Tryz.prog k_f) (h_f:∀ (vs0:List Value) (x0:Ym) (hx0:Q1.R G vs0 x0),QF Tryz.prog k_f (#[.agg vs0.toArray]++caps_f) G [] (fun u _ _=>u=Bo (p_f x0))) :QF Tryz.prog 17 #[Sl a_l l.length c_l,.func (.func k_f) #[] caps_f] G [] (fun u G' L'=>u=Bo (l.any p_f)):=by
 refine JJ Tryz.func17 9 [(0,Sl a_l l.length c_l),(1,.func (.func k_f) #[] caps_f)] rfl (fun w0 G0=>?_)
 refine Jg [0] [(0,Sl a_l l.length c_l),(1,.func (.func k_f) #[] caps_f)] (Je (Jb (Jd [0,0] [(5,Sl a_l l.length c_l),(6,.func (.func k_f) #[] caps_f)] (Ji 7 (I (K9 p_f l)) (JfO G a_l c_l l h_l k_f caps_f p_f hk_f h_f) (Jd [0,0] [(4,Bo (decide (K9 p_f l ≥ 0)))] (Jc (Ja (Jk (Jl [0] [Bo (decide (K9 p_f l ≥ 0))] (Jv (Jt.le_refl _) ?_))))))))))
 have hf_:(l.any p_f)=(decide (K9 p_f l ≥ 0)):=by
  rw [YK]
 · (try rw [hf_]);(simp only [JL];done)
theorem JgN (G:Jt) (a_l:Option Addr) (c_l:Nat) (l:List Qd) (h_l:RS Jae G a_l c_l l) (k_f:FuncId) (caps_f:Array Value) (p_f:Qd→Bool) (hk_f:VR Tryz.prog k_f) (h_f:∀ (vs0:List Value) (x0:Qd) (hx0:Jae.R G vs0 x0),QF Tryz.prog k_f (#[.agg vs0.toArray]++caps_f) G [] (fun u _ _=>u=Bo (p_f x0))) :QF Tryz.prog 47 #[Sl a_l l.length c_l,.func (.func k_f) #[] caps_f] G [] (fun u G' L'=>u=I (K9 p_f l)):=by
 refine JJ Tryz.func47 19 [(0,Sl a_l l.length c_l),(1,.func (.func k_f) #[] caps_f)] rfl (fun w0 G0=>?_)
 refine Jg [0] [(0,Sl a_l l.length c_l),(1,.func (.func k_f) #[] caps_f)] (Je (Jg [0,0,0] [(0,Sl a_l l.length c_l),(1,.func (.func k_f) #[] caps_f),(7,I (l.length:Int)),(8,I 0)] (Jz ?_)))
 have hlm_h_l:l.length≤9223372036854775807:=Nat.le_trans (h_l).le (h_l).max
 refine Qc (σ:=Nat) (fun q_=>(q_≤l.length)∧((l.take q_).any p_f=false)) (fun q_=>[(0,Sl a_l l.length c_l),(1,.func (.func k_f) #[] caps_f),(7,I (l.length:Int)),(8,I (q_:Int))]) (fun q_=>G) (fun q_=>[]) (fun q_=>l.length-q_) 0 ⟨(by (try dsimp only);exact Nat.zero_le _),(by (try dsimp only);simp)⟩ (fun q_ hs=>?_)
 revert hs;revert q_;intro i hs
 obtain ⟨hi,hn⟩:=hs
 refine KQ (fr':=[(0,Sl a_l l.length c_l),(1,.func (.func k_f) #[] caps_f),(7,I (l.length:Int)),(8,I (i:Int))]) (L':=[]) rfl rfl (Jg [0] [(0,Sl a_l l.length c_l),(1,.func (.func k_f) #[] caps_f),(7,I (l.length:Int)),(8,I (i:Int)),(9,Bo (decide ((i:Int)<(l.length:Int))))] (Je (Jo (decide ((i:Int)<(l.length:Int))) (fun h1=>?_) (fun h1=>?_))))
 try simp only [BB] at h1
 refine Jm (Ja (Je (Jz (Jg [0,0] [(0,Sl a_l l.length c_l),(1,.func (.func k_f) #[] caps_f),(5,I (i:Int)),(7,I (l.length:Int)),(8,I (i:Int))] (Je (Jb (Jd [0,0,0] [(0,Sl a_l l.length c_l),(1,.func (.func k_f) #[] caps_f),(5,I (i:Int)),(7,I (l.length:Int)),(8,I (i:Int)),(11,.func (.func k_f) #[] caps_f),(12,Sl a_l l.length c_l),(13,I (i:Int))] ?_)))))))
 obtain ⟨b1,o1,rfl⟩:=RS.addr h_l (k:=i) (by omega)
 obtain ⟨x1,hx1⟩:=Wh (l:=l) (k:=i) (by omega)
 obtain ⟨_,⟨a1,c1,a2,c2,a3,c3,a4,c4,rfl,w1,w2,w3,hs1,w4,w5,w6,w7,hs2,w8,w9,w10,w11,w12,hs3,hs4⟩,hc1⟩:=RS.get h_l hx1
 refine Kh (b:=b1) (off:=o1) (len:=l.length) (cap:=c_l) (ik:=.i64) 14 74 16 i (by omega) (Ka 15 74 (cs:=(Wk x1 a1 c1 a2 c2 a3 c3 a4 c4)) 0 (JaH x1 a1 c1 a2 c2 a3 c3 a4 c4) hc1 (W2 (k:=k_f) (caps:=caps_f) (args:=#[(JaH x1 a1 c1 a2 c2 a3 c3 a4 c4)]) 16 (Bo (p_f x1)) hk_f (h_f (Wk x1 a1 c1 a2 c2 a3 c3 a4 c4) x1 (⟨a1,c1,a2,c2,a3,c3,a4,c4,rfl,w1,w2,w3,hs1,w4,w5,w6,w7,hs2,w8,w9,w10,w11,w12,hs3,hs4⟩)) (Jc (Ja (Jo (p_f x1) (fun h2=>?_) (fun h2=>?_))))))
 try simp only [BB] at h2
 refine Jg [0,0] [(4,I (i:Int))] (Jk (Js (Jh (QC (Js (Jh (Jl [0] [I (i:Int)] (Jv (Jt.le_refl _) ?_))))))))
 have hf_:(K9 p_f l)=(i:Int):=by
  exact Yg hx1 (by simpa using h2) hn
 · (try rw [hf_]);(simp only [JL];done)
 try simp only [BB] at h2
 refine Jm (JM (Ja (Jb (Jd [0,0] [(0,Sl (At b1 o1) l.length c_l),(1,.func (.func k_f) #[] caps_f),(7,I (l.length:Int)),(8,I (IntKind.i64.wrap ((i:Int)+1)))] ?_))))
 have e1:IntKind.i64.wrap ((i:Int)+1)=(i:Int)+1:=IntWalk.i64_in _ (by omega)
 refine J3 (fr':=[(0,Sl (At b1 o1) l.length c_l),(1,.func (.func k_f) #[] caps_f),(7,I (l.length:Int)),(8,I ((i:Int)+1))]) (L':=[]) (by simp only [Wk,JaH,e1];first | done | rfl) (by rfl) ?_
 clear e1
 exact Jc (Qg (i+1) ⟨(by omega),(YJ hx1 (by simpa using h2) hn)⟩ (by (try dsimp only);omega))
 try simp only [BB] at h1
 refine K0 (J2 (Kf (JU (Ja (Jg [0] [(4,I (-1))] (Jk (Jl [0] [I (-1)] (Jv (Jt.le_refl _) ?_))))))))
 have hf_:(K9 p_f l)=(-1):=by
  exact ZT (by rw [List.take_of_length_le (by omega)] at hn;exact hn)
 · (try rw [hf_]);(simp only [JL];done)
theorem JhR (G:Jt) (a_l:Option Addr) (c_l:Nat) (l:List Qd) (h_l:RS Jae G a_l c_l l) (k_f:FuncId) (caps_f:Array Value) (p_f:Qd→Bool) (hk_f:VR Tryz.prog k_f) (h_f:∀ (vs0:List Value) (x0:Qd) (hx0:Jae.R G vs0 x0),QF Tryz.prog k_f (#[.agg vs0.toArray]++caps_f) G [] (fun u _ _=>u=Bo (p_f x0))) :QF Tryz.prog 19 #[Sl a_l l.length c_l,.func (.func k_f) #[] caps_f] G [] (fun u G' L'=>u=Bo (l.any p_f)):=by
 refine JJ Tryz.func19 9 [(0,Sl a_l l.length c_l),(1,.func (.func k_f) #[] caps_f)] rfl (fun w0 G0=>?_)
 refine Jg [0] [(0,Sl a_l l.length c_l),(1,.func (.func k_f) #[] caps_f)] (Je (Jb (Jd [0,0] [(5,Sl a_l l.length c_l),(6,.func (.func k_f) #[] caps_f)] (Ji 7 (I (K9 p_f l)) (JgN G a_l c_l l h_l k_f caps_f p_f hk_f h_f) (Jd [0,0] [(4,Bo (decide (K9 p_f l ≥ 0)))] (Jc (Ja (Jk (Jl [0] [Bo (decide (K9 p_f l ≥ 0))] (Jv (Jt.le_refl _) ?_))))))))))
 have hf_:(l.any p_f)=(decide (K9 p_f l ≥ 0)):=by
  rw [YK]
 · (try rw [hf_]);(simp only [JL];done)
theorem Jet (G:Jt) (a_l:Option Addr) (c_l:Nat) (l:List JP) (h_l:RS Ki G a_l c_l l) (k_f:FuncId) (caps_f:Array Value) (p_f:JP→Bool) (hk_f:VR Tryz.prog k_f) (h_f:∀ (vs0:List Value) (x0:JP) (hx0:Ki.R G vs0 x0),QF Tryz.prog k_f (#[.agg vs0.toArray]++caps_f) G [] (fun u _ _=>u=Bo (p_f x0))) :QF Tryz.prog 80 #[Sl a_l l.length c_l,.func (.func k_f) #[] caps_f] G [] (fun u G' L'=>u=I (K9 p_f l)):=by
 refine JJ Tryz.func80 19 [(0,Sl a_l l.length c_l),(1,.func (.func k_f) #[] caps_f)] rfl (fun w0 G0=>?_)
 refine Jg [0] [(0,Sl a_l l.length c_l),(1,.func (.func k_f) #[] caps_f)] (Je (Jg [0,0,0] [(0,Sl a_l l.length c_l),(1,.func (.func k_f) #[] caps_f),(7,I (l.length:Int)),(8,I 0)] (Jz ?_)))
 have hlm_h_l:l.length≤9223372036854775807:=Nat.le_trans (h_l).le (h_l).max
 refine Qc (σ:=Nat) (fun q_=>(q_≤l.length)∧((l.take q_).any p_f=false)) (fun q_=>[(0,Sl a_l l.length c_l),(1,.func (.func k_f) #[] caps_f),(7,I (l.length:Int)),(8,I (q_:Int))]) (fun q_=>G) (fun q_=>[]) (fun q_=>l.length-q_) 0 ⟨(by (try dsimp only);exact Nat.zero_le _),(by (try dsimp only);simp)⟩ (fun q_ hs=>?_)
 revert hs;revert q_;intro i hs
 obtain ⟨hi,hn⟩:=hs
 refine KQ (fr':=[(0,Sl a_l l.length c_l),(1,.func (.func k_f) #[] caps_f),(7,I (l.length:Int)),(8,I (i:Int))]) (L':=[]) rfl rfl (Jg [0] [(0,Sl a_l l.length c_l),(1,.func (.func k_f) #[] caps_f),(7,I (l.length:Int)),(8,I (i:Int)),(9,Bo (decide ((i:Int)<(l.length:Int))))] (Je (Jo (decide ((i:Int)<(l.length:Int))) (fun h1=>?_) (fun h1=>?_))))
 try simp only [BB] at h1
 refine Jm (Ja (Je (Jz (Jg [0,0] [(0,Sl a_l l.length c_l),(1,.func (.func k_f) #[] caps_f),(5,I (i:Int)),(7,I (l.length:Int)),(8,I (i:Int))] (Je (Jb (Jd [0,0,0] [(0,Sl a_l l.length c_l),(1,.func (.func k_f) #[] caps_f),(5,I (i:Int)),(7,I (l.length:Int)),(8,I (i:Int)),(11,.func (.func k_f) #[] caps_f),(12,Sl a_l l.length c_l),(13,I (i:Int))] ?_)))))))
 obtain ⟨b1,o1,rfl⟩:=RS.addr h_l (k:=i) (by omega)
 obtain ⟨x1,hx1⟩:=Wh (l:=l) (k:=i) (by omega)
 obtain ⟨_,⟨a1,c1,a2,c2,a3,c3,rfl,w1,w2,w3,w4,hs1,w5,w6,w7,w8,w9,hs2,hs3⟩,hc1⟩:=RS.get h_l hx1
 refine Kh (b:=b1) (off:=o1) (len:=l.length) (cap:=c_l) (ik:=.i64) 14 72 12 i (by omega) (Ka 15 72 (cs:=(J4 x1 a1 c1 a2 c2 a3 c3)) 0 (K3 x1 a1 c1 a2 c2 a3 c3) hc1 (W2 (k:=k_f) (caps:=caps_f) (args:=#[(K3 x1 a1 c1 a2 c2 a3 c3)]) 16 (Bo (p_f x1)) hk_f (h_f (J4 x1 a1 c1 a2 c2 a3 c3) x1 (⟨a1,c1,a2,c2,a3,c3,rfl,w1,w2,w3,w4,hs1,w5,w6,w7,w8,w9,hs2,hs3⟩)) (Jc (Ja (Jo (p_f x1) (fun h2=>?_) (fun h2=>?_))))))
 try simp only [BB] at h2
 refine Jg [0,0] [(4,I (i:Int))] (Jk (Js (Jh (QC (Js (Jh (Jl [0] [I (i:Int)] (Jv (Jt.le_refl _) ?_))))))))
 have hf_:(K9 p_f l)=(i:Int):=by
  exact Yg hx1 (by simpa using h2) hn
 · (try rw [hf_]);(simp only [JL];done)
 try simp only [BB] at h2
 refine Jm (JM (Ja (Jb (Jd [0,0] [(0,Sl (At b1 o1) l.length c_l),(1,.func (.func k_f) #[] caps_f),(7,I (l.length:Int)),(8,I (IntKind.i64.wrap ((i:Int)+1)))] ?_))))
 have e1:IntKind.i64.wrap ((i:Int)+1)=(i:Int)+1:=IntWalk.i64_in _ (by omega)
 refine J3 (fr':=[(0,Sl (At b1 o1) l.length c_l),(1,.func (.func k_f) #[] caps_f),(7,I (l.length:Int)),(8,I ((i:Int)+1))]) (L':=[]) (by simp only [J4,K3,e1];first | done | rfl) (by rfl) ?_
 clear e1
 exact Jc (Qg (i+1) ⟨(by omega),(YJ hx1 (by simpa using h2) hn)⟩ (by (try dsimp only);omega))
 try simp only [BB] at h1
 refine K0 (J2 (Kf (JU (Ja (Jg [0] [(4,I (-1))] (Jk (Jl [0] [I (-1)] (Jv (Jt.le_refl _) ?_))))))))
 have hf_:(K9 p_f l)=(-1):=by
  exact ZT (by rw [List.take_of_length_le (by omega)] at hn;exact hn)
 · (try rw [hf_]);(simp only [JL];done)
theorem JfP (G:Jt) (a_l:Option Addr) (c_l:Nat) (l:List JP) (h_l:RS Ki G a_l c_l l) (k_f:FuncId) (caps_f:Array Value) (p_f:JP→Bool) (hk_f:VR Tryz.prog k_f) (h_f:∀ (vs0:List Value) (x0:JP) (hx0:Ki.R G vs0 x0),QF Tryz.prog k_f (#[.agg vs0.toArray]++caps_f) G [] (fun u _ _=>u=Bo (p_f x0))) :QF Tryz.prog 39 #[Sl a_l l.length c_l,.func (.func k_f) #[] caps_f] G [] (fun u G' L'=>u=Bo (l.any p_f)):=by
 refine JJ Tryz.func39 9 [(0,Sl a_l l.length c_l),(1,.func (.func k_f) #[] caps_f)] rfl (fun w0 G0=>?_)
 refine Jg [0] [(0,Sl a_l l.length c_l),(1,.func (.func k_f) #[] caps_f)] (Je (Jb (Jd [0,0] [(5,Sl a_l l.length c_l),(6,.func (.func k_f) #[] caps_f)] (Ji 7 (I (K9 p_f l)) (Jet G a_l c_l l h_l k_f caps_f p_f hk_f h_f) (Jd [0,0] [(4,Bo (decide (K9 p_f l ≥ 0)))] (Jc (Ja (Jk (Jl [0] [Bo (decide (K9 p_f l ≥ 0))] (Jv (Jt.le_refl _) ?_))))))))))
 have hf_:(l.any p_f)=(decide (K9 p_f l ≥ 0)):=by
  rw [YK]
 · (try rw [hf_]);(simp only [JL];done)
theorem Jfd (G:Jt) (a_l:Option Addr) (c_l:Nat) (l:List (List UInt8)) (h_l:RS ES G a_l c_l l) :QF Tryz.prog 144 #[Sl a_l l.length c_l] G [] (fun u G' L'=>∃ (a1:Option Addr) (c2:Nat) (r3:List Ks),u=Sl a1 l.length c2∧(J9 ES G' a1 c2 l r3)∧L'=[r3]):=by
 refine JJ Tryz.func144 8 [(0,Sl a_l l.length c_l)] rfl (fun w0 G0=>?_)
 refine Jg [0] [(0,Sl a_l l.length c_l)] (Je (Je (Jb (Jd [0] [(0,Sl a_l l.length c_l),(3,Sl a_l l.length c_l)] (Jab 4 (Bo ((a_l).isNone)) (by intro w;cases a_l <;> kernel_rfl) (Jc (Ja (Jo ((a_l).isNone) (fun h1=>?_) (fun h1=>?_)))))))))
 try simp only [BB] at h1
 refine Jg [0] [(2,Sl none 0 0)] (Jk (Jh (Zb (Jj 0 ?_))))
 have hf1:l=[]:=by
  exact RS.isNil h_l h1
 refine Jl [0] [Sl none 0 0] (JY [[]] (.cons_cons _ .slnil) (Jt.le_refl _) ?_)
 rw [hf1]
 try dsimp only
 exact ⟨none,0,([]),rfl,(J9.none ES _),rfl⟩
 try simp only [BB] at h1
 refine Jm (Ja (Je (Jb (KH 5 0 #[] 9 (fun b1=>Jd [0] [(5,Sl (At b1 0) 0 0),(6,Sl a_l l.length c_l)] (Vv 7 9 0 (J9.of_lit (E:=ES) (b:=b1) [] [] trivial (by simp)) h_l (fun a1 c1 r1 hr1=>Jd [0] [(2,Sl a1 l.length c1)] (Jc (Ja (Jk (Jj 0 ?_)))))))))))
 have hf2:l=l:=by
  rfl
 refine Jl [0] [Sl a1 l.length c1] (JY [r1] (.cons_cons _ .slnil) (Jt.le_refl _) ?_)
 rw [hf2]
 try dsimp only
 exact ⟨a1,c1,r1,rfl,hr1,rfl⟩
theorem Jk2 (G:Jt) (a_l:Option Addr) (c_l:Nat) (l:List (List UInt8)) (h_l:RS ES G a_l c_l l) (k_f:FuncId) (caps_f:Array Value) (p_f:(List UInt8)→Bool) (hk_f:VR Tryz.prog k_f) (h_f:∀ (x0:(List UInt8)) (hx0:(x0).length≤140737488351232),QF Tryz.prog k_f (#[Sr x0]++caps_f) G [] (fun u _ _=>u=Bo (p_f x0))) :QF Tryz.prog 84 #[Sl a_l l.length c_l,.func (.func k_f) #[] caps_f] G [] (fun u G' L'=>u=I (K9 p_f l)):=by
 refine JJ Tryz.func84 19 [(0,Sl a_l l.length c_l),(1,.func (.func k_f) #[] caps_f)] rfl (fun w0 G0=>?_)
 refine Jg [0] [(0,Sl a_l l.length c_l),(1,.func (.func k_f) #[] caps_f)] (Je (Jg [0,0,0] [(0,Sl a_l l.length c_l),(1,.func (.func k_f) #[] caps_f),(7,I (l.length:Int)),(8,I 0)] (Jz ?_)))
 have hlm_h_l:l.length≤9223372036854775807:=Nat.le_trans (h_l).le (h_l).max
 refine Qc (σ:=Nat) (fun q_=>(q_≤l.length)∧((l.take q_).any p_f=false)) (fun q_=>[(0,Sl a_l l.length c_l),(1,.func (.func k_f) #[] caps_f),(7,I (l.length:Int)),(8,I (q_:Int))]) (fun q_=>G) (fun q_=>[]) (fun q_=>l.length-q_) 0 ⟨(by (try dsimp only);exact Nat.zero_le _),(by (try dsimp only);simp)⟩ (fun q_ hs=>?_)
 revert hs;revert q_;intro i hs
 obtain ⟨hi,hn⟩:=hs
 refine KQ (fr':=[(0,Sl a_l l.length c_l),(1,.func (.func k_f) #[] caps_f),(7,I (l.length:Int)),(8,I (i:Int))]) (L':=[]) rfl rfl (Jg [0] [(0,Sl a_l l.length c_l),(1,.func (.func k_f) #[] caps_f),(7,I (l.length:Int)),(8,I (i:Int)),(9,Bo (decide ((i:Int)<(l.length:Int))))] (Je (Jo (decide ((i:Int)<(l.length:Int))) (fun h1=>?_) (fun h1=>?_))))
 try simp only [BB] at h1
 refine Jm (Ja (Je (Jz (Jg [0,0] [(0,Sl a_l l.length c_l),(1,.func (.func k_f) #[] caps_f),(5,I (i:Int)),(7,I (l.length:Int)),(8,I (i:Int))] (Je (Jb (Jd [0,0,0] [(0,Sl a_l l.length c_l),(1,.func (.func k_f) #[] caps_f),(5,I (i:Int)),(7,I (l.length:Int)),(8,I (i:Int)),(11,.func (.func k_f) #[] caps_f),(12,Sl a_l l.length c_l),(13,I (i:Int))] ?_)))))))
 obtain ⟨b1,o1,rfl⟩:=RS.addr h_l (k:=i) (by omega)
 obtain ⟨x1,hx1⟩:=Wh (l:=l) (k:=i) (by omega)
 obtain ⟨_,⟨rfl,w1⟩,hc1⟩:=RS.get h_l hx1
 refine Kh (b:=b1) (off:=o1) (len:=l.length) (cap:=c_l) (ik:=.i64) 14 9 1 i (by omega) (Ka 15 9 (cs:=[Sr x1]) 0 (Sr x1) hc1 (W2 (k:=k_f) (caps:=caps_f) (args:=#[Sr x1]) 16 (Bo (p_f x1)) hk_f (h_f x1 w1) (Jc (Ja (Jo (p_f x1) (fun h2=>?_) (fun h2=>?_))))))
 try simp only [BB] at h2
 refine Jg [0,0] [(4,I (i:Int))] (Jk (Js (Jh (QC (Js (Jh (Jl [0] [I (i:Int)] (Jv (Jt.le_refl _) ?_))))))))
 have hf_:(K9 p_f l)=(i:Int):=by
  exact Yg hx1 (by simpa using h2) hn
 · (try rw [hf_]);(simp only [JL];done)
 try simp only [BB] at h2
 refine Jm (JM (Ja (Jb (Jd [0,0] [(0,Sl (At b1 o1) l.length c_l),(1,.func (.func k_f) #[] caps_f),(7,I (l.length:Int)),(8,I (IntKind.i64.wrap ((i:Int)+1)))] ?_))))
 have e1:IntKind.i64.wrap ((i:Int)+1)=(i:Int)+1:=IntWalk.i64_in _ (by omega)
 refine J3 (fr':=[(0,Sl (At b1 o1) l.length c_l),(1,.func (.func k_f) #[] caps_f),(7,I (l.length:Int)),(8,I ((i:Int)+1))]) (L':=[]) (by simp only [e1]) (by rfl) ?_
 clear e1
 exact Jc (Qg (i+1) ⟨(by omega),(YJ hx1 (by simpa using h2) hn)⟩ (by (try dsimp only);omega))
 try simp only [BB] at h1
 refine K0 (J2 (Kf (JU (Ja (Jg [0] [(4,I (-1))] (Jk (Jl [0] [I (-1)] (Jv (Jt.le_refl _) ?_))))))))
 have hf_:(K9 p_f l)=(-1):=by
  exact ZT (by rw [List.take_of_length_le (by omega)] at hn;exact hn)
 · (try rw [hf_]);(simp only [JL];done)
theorem Jmp (G:Jt) (a_l:Option Addr) (c_l:Nat) (l:List (List UInt8)) (h_l:RS ES G a_l c_l l) (k_f:FuncId) (caps_f:Array Value) (p_f:(List UInt8)→Bool) (hk_f:VR Tryz.prog k_f) (h_f:∀ (x0:(List UInt8)) (hx0:(x0).length≤140737488351232),QF Tryz.prog k_f (#[Sr x0]++caps_f) G [] (fun u _ _=>u=Bo (p_f x0))) :QF Tryz.prog 43 #[Sl a_l l.length c_l,.func (.func k_f) #[] caps_f] G [] (fun u G' L'=>u=Bo (l.any p_f)):=by
 refine JJ Tryz.func43 9 [(0,Sl a_l l.length c_l),(1,.func (.func k_f) #[] caps_f)] rfl (fun w0 G0=>?_)
 refine Jg [0] [(0,Sl a_l l.length c_l),(1,.func (.func k_f) #[] caps_f)] (Je (Jb (Jd [0,0] [(5,Sl a_l l.length c_l),(6,.func (.func k_f) #[] caps_f)] (Ji 7 (I (K9 p_f l)) (Jk2 G a_l c_l l h_l k_f caps_f p_f hk_f h_f) (Jd [0,0] [(4,Bo (decide (K9 p_f l ≥ 0)))] (Jc (Ja (Jk (Jl [0] [Bo (decide (K9 p_f l ≥ 0))] (Jv (Jt.le_refl _) ?_))))))))))
 have hf_:(l.any p_f)=(decide (K9 p_f l ≥ 0)):=by
  rw [YK]
 · (try rw [hf_]);(simp only [JL];done)
theorem JiS (G:Jt) (a_l:Option Addr) (c_l:Nat) (l:List (List UInt8)) (h_l:RS ES G a_l c_l l) (v:List UInt8) :QF Tryz.prog 105 #[Sl a_l l.length c_l,Sr v] G [] (fun u G' L'=>u=I (K9 (fun x=>decide (v=x)) l)):=by
 refine JJ Tryz.func105 19 [(0,Sl a_l l.length c_l),(1,Sr v)] rfl (fun w0 G0=>?_)
 refine Jg [0] [(0,Sl a_l l.length c_l),(1,Sr v)] (Je (Jg [0,0,0] [(0,Sl a_l l.length c_l),(1,Sr v),(7,I (l.length:Int)),(8,I 0)] (Jz ?_)))
 have hlm_h_l:l.length≤9223372036854775807:=Nat.le_trans (h_l).le (h_l).max
 refine Qc (σ:=Nat) (fun q_=>(q_≤l.length)∧((l.take q_).any (fun x=>decide (v=x))=false)) (fun q_=>[(0,Sl a_l l.length c_l),(1,Sr v),(7,I (l.length:Int)),(8,I (q_:Int))]) (fun q_=>G) (fun q_=>[]) (fun q_=>l.length-q_) 0 ⟨(by (try dsimp only);exact Nat.zero_le _),(by (try dsimp only);simp)⟩ (fun q_ hs=>?_)
 revert hs;revert q_;intro i hs
 obtain ⟨hi,hn⟩:=hs
 refine KQ (fr':=[(0,Sl a_l l.length c_l),(1,Sr v),(7,I (l.length:Int)),(8,I (i:Int))]) (L':=[]) rfl rfl (Jg [0] [(0,Sl a_l l.length c_l),(1,Sr v),(7,I (l.length:Int)),(8,I (i:Int)),(9,Bo (decide ((i:Int)<(l.length:Int))))] (Je (Jo (decide ((i:Int)<(l.length:Int))) (fun h1=>?_) (fun h1=>?_))))
 try simp only [BB] at h1
 refine Jm (Ja (Je (Jz (Jg [0,0] [(0,Sl a_l l.length c_l),(1,Sr v),(5,I (i:Int)),(7,I (l.length:Int)),(8,I (i:Int))] (Je (Jb (Jd [0,0,0] [(0,Sl a_l l.length c_l),(1,Sr v),(5,I (i:Int)),(7,I (l.length:Int)),(8,I (i:Int)),(11,Sr v),(12,Sl a_l l.length c_l),(13,I (i:Int))] ?_)))))))
 obtain ⟨b1,o1,rfl⟩:=RS.addr h_l (k:=i) (by omega)
 obtain ⟨x1,hx1⟩:=Wh (l:=l) (k:=i) (by omega)
 obtain ⟨_,⟨rfl,_⟩,hc1⟩:=RS.get h_l hx1
 refine Kh (b:=b1) (off:=o1) (len:=l.length) (cap:=c_l) (ik:=.i64) 14 9 1 i (by omega) (Ka 15 9 (cs:=[Sr x1]) 0 (Sr x1) hc1 (Jd [0] [(0,Sl (At b1 o1) l.length c_l),(1,Sr v),(5,I (i:Int)),(7,I (l.length:Int)),(8,I (i:Int)),(16,Bo ((B v).toList == (B x1).toList))] (J3 (fr':=[(0,Sl (At b1 o1) l.length c_l),(1,Sr v),(5,I (i:Int)),(7,I (l.length:Int)),(8,I (i:Int)),(16,Bo (v == x1))]) (L':=[]) (by simp only [Za]) (by rfl) (Jc (Ja (Jo (v == x1) (fun h2=>?_) (fun h2=>?_)))))))
 try simp only [BB] at h2
 refine Jg [0,0] [(4,I (i:Int))] (Jk (Js (Jh (QC (Js (Jh (Jl [0] [I (i:Int)] (Jv (Jt.le_refl _) ?_))))))))
 have hf_:(K9 (fun x=>decide (v=x)) l)=(i:Int):=by
  exact Yg hx1 (decide_eq_true (by simpa using h2)) hn
 · (try rw [hf_]);(simp only [JL];done)
 try simp only [BB] at h2
 refine Jm (JM (Ja (Jb (Jd [0,0] [(0,Sl (At b1 o1) l.length c_l),(1,Sr v),(7,I (l.length:Int)),(8,I (IntKind.i64.wrap ((i:Int)+1)))] ?_))))
 have e1:IntKind.i64.wrap ((i:Int)+1)=(i:Int)+1:=IntWalk.i64_in _ (by omega)
 refine J3 (fr':=[(0,Sl (At b1 o1) l.length c_l),(1,Sr v),(7,I (l.length:Int)),(8,I ((i:Int)+1))]) (L':=[]) (by simp only [e1]) (by rfl) ?_
 clear e1
 exact Jc (Qg (i+1) ⟨(by omega),(YJ hx1 (decide_eq_false (by simpa using h2)) hn)⟩ (by (try dsimp only);omega))
 try simp only [BB] at h1
 refine K0 (J2 (Kf (JU (Ja (Jg [0] [(4,I (-1))] (Jk (Jl [0] [I (-1)] (Jv (Jt.le_refl _) ?_))))))))
 have hf_:(K9 (fun x=>decide (v=x)) l)=(-1):=by
  exact ZT (by rw [List.take_of_length_le (by omega)] at hn;exact hn)
 · (try rw [hf_]);(simp only [JL];done)
theorem Jmq (G:Jt) (a_l:Option Addr) (c_l:Nat) (l:List (List UInt8)) (h_l:RS ES G a_l c_l l) (v:List UInt8) :QF Tryz.prog 67 #[Sl a_l l.length c_l,Sr v] G [] (fun u G' L'=>u=Bo (l.any (fun x=>decide (v=x)))):=by
 refine JJ Tryz.func67 9 [(0,Sl a_l l.length c_l),(1,Sr v)] rfl (fun w0 G0=>?_)
 refine Jg [0] [(0,Sl a_l l.length c_l),(1,Sr v)] (Je (Jb (Jd [0,0] [(5,Sl a_l l.length c_l),(6,Sr v)] (Ji 7 (I (K9 (fun x=>decide (v=x)) l)) (JiS G a_l c_l l h_l v) (Jd [0,0] [(4,Bo (decide (K9 (fun x=>decide (v=x)) l ≥ 0)))] (Jc (Ja (Jk (Jl [0] [Bo (decide (K9 (fun x=>decide (v=x)) l ≥ 0))] (Jv (Jt.le_refl _) ?_))))))))))
 have hf_:(l.any (fun x=>decide (v=x)))=(decide (K9 (fun x=>decide (v=x)) l ≥ 0)):=by
  rw [YK]
 · (try rw [hf_]);(simp only [JL];done)
theorem Z3 (G:Jt) (a_l:Option Addr) (c_l:Nat) (l:List JV) (h_l:RS Qo G a_l c_l l) :QF Tryz.prog 59 #[Sl a_l l.length c_l] G [] (fun u G' L'=>∃ (a1:Option Addr) (c2:Nat) (r3:List Ks),u=Sl a1 l.length c2∧(J9 Qo G' a1 c2 l r3)∧L'=[r3]):=by
 refine JJ Tryz.func59 8 [(0,Sl a_l l.length c_l)] rfl (fun w0 G0=>?_)
 refine Jg [0] [(0,Sl a_l l.length c_l)] (Je (Je (Jb (Jd [0] [(0,Sl a_l l.length c_l),(3,Sl a_l l.length c_l)] (Jab 4 (Bo ((a_l).isNone)) (by intro w;cases a_l <;> kernel_rfl) (Jc (Ja (Jo ((a_l).isNone) (fun h1=>?_) (fun h1=>?_)))))))))
 try simp only [BB] at h1
 refine Jg [0] [(2,Sl none 0 0)] (Jk (Jh (Zb (Jj 0 ?_))))
 have hf1:l=[]:=by
  exact RS.isNil h_l h1
 refine Jl [0] [Sl none 0 0] (JY [[]] (.cons_cons _ .slnil) (Jt.le_refl _) ?_)
 rw [hf1]
 try dsimp only
 exact ⟨none,0,([]),rfl,(J9.none Qo _),rfl⟩
 try simp only [BB] at h1
 refine Jm (Ja (Je (Jb (KH 5 0 #[] 94 (fun b1=>Jd [0] [(5,Sl (At b1 0) 0 0),(6,Sl a_l l.length c_l)] (Vv 7 94 0 (J9.of_lit (E:=Qo) (b:=b1) [] [] trivial (by simp)) h_l (fun a1 c1 r1 hr1=>Jd [0] [(2,Sl a1 l.length c1)] (Jc (Ja (Jk (Jj 0 ?_)))))))))))
 have hf2:l=l:=by
  rfl
 refine Jl [0] [Sl a1 l.length c1] (JY [r1] (.cons_cons _ .slnil) (Jt.le_refl _) ?_)
 rw [hf2]
 try dsimp only
 exact ⟨a1,c1,r1,rfl,hr1,rfl⟩
theorem JdT (G:Jt) (a_l:Option Addr) (c_l:Nat) (l:List JV) (h_l:RS Qo G a_l c_l l) (k_f:FuncId) (caps_f:Array Value) (p_f:JV→Bool) (hk_f:VR Tryz.prog k_f) (h_f:∀ (vs0:List Value) (x0:JV) (hx0:Qo.R G vs0 x0),QF Tryz.prog k_f (#[.agg vs0.toArray]++caps_f) G [] (fun u _ _=>u=Bo (p_f x0))) :QF Tryz.prog 194 #[Sl a_l l.length c_l,.func (.func k_f) #[] caps_f] G [] (fun u G' L'=>u=I (K9 p_f l)):=by
 refine JJ Tryz.func194 19 [(0,Sl a_l l.length c_l),(1,.func (.func k_f) #[] caps_f)] rfl (fun w0 G0=>?_)
 refine Jg [0] [(0,Sl a_l l.length c_l),(1,.func (.func k_f) #[] caps_f)] (Je (Jg [0,0,0] [(0,Sl a_l l.length c_l),(1,.func (.func k_f) #[] caps_f),(7,I (l.length:Int)),(8,I 0)] (Jz ?_)))
 have hlm_h_l:l.length≤9223372036854775807:=Nat.le_trans (h_l).le (h_l).max
 refine Qc (σ:=Nat) (fun q_=>(q_≤l.length)∧((l.take q_).any p_f=false)) (fun q_=>[(0,Sl a_l l.length c_l),(1,.func (.func k_f) #[] caps_f),(7,I (l.length:Int)),(8,I (q_:Int))]) (fun q_=>G) (fun q_=>[]) (fun q_=>l.length-q_) 0 ⟨(by (try dsimp only);exact Nat.zero_le _),(by (try dsimp only);simp)⟩ (fun q_ hs=>?_)
 revert hs;revert q_;intro i hs
 obtain ⟨hi,hn⟩:=hs
 refine KQ (fr':=[(0,Sl a_l l.length c_l),(1,.func (.func k_f) #[] caps_f),(7,I (l.length:Int)),(8,I (i:Int))]) (L':=[]) rfl rfl (Jg [0] [(0,Sl a_l l.length c_l),(1,.func (.func k_f) #[] caps_f),(7,I (l.length:Int)),(8,I (i:Int)),(9,Bo (decide ((i:Int)<(l.length:Int))))] (Je (Jo (decide ((i:Int)<(l.length:Int))) (fun h1=>?_) (fun h1=>?_))))
 try simp only [BB] at h1
 refine Jm (Ja (Je (Jz (Jg [0,0] [(0,Sl a_l l.length c_l),(1,.func (.func k_f) #[] caps_f),(5,I (i:Int)),(7,I (l.length:Int)),(8,I (i:Int))] (Je (Jb (Jd [0,0,0] [(0,Sl a_l l.length c_l),(1,.func (.func k_f) #[] caps_f),(5,I (i:Int)),(7,I (l.length:Int)),(8,I (i:Int)),(11,.func (.func k_f) #[] caps_f),(12,Sl a_l l.length c_l),(13,I (i:Int))] ?_)))))))
 obtain ⟨b1,o1,rfl⟩:=RS.addr h_l (k:=i) (by omega)
 obtain ⟨x1,hx1⟩:=Wh (l:=l) (k:=i) (by omega)
 obtain ⟨_,⟨rfl,w1,w2⟩,hc1⟩:=RS.get h_l hx1
 refine Kh (b:=b1) (off:=o1) (len:=l.length) (cap:=c_l) (ik:=.i64) 14 94 2 i (by omega) (Ka 15 94 (cs:=[Sr x1.name,Sr x1.value]) 0 (.agg #[Sr x1.name,Sr x1.value]) hc1 (W2 (k:=k_f) (caps:=caps_f) (args:=#[.agg #[Sr x1.name,Sr x1.value]]) 16 (Bo (p_f x1)) hk_f (h_f [Sr x1.name,Sr x1.value] x1 (⟨rfl,w1,w2⟩)) (Jc (Ja (Jo (p_f x1) (fun h2=>?_) (fun h2=>?_))))))
 try simp only [BB] at h2
 refine Jg [0,0] [(4,I (i:Int))] (Jk (Js (Jh (QC (Js (Jh (Jl [0] [I (i:Int)] (Jv (Jt.le_refl _) ?_))))))))
 have hf_:(K9 p_f l)=(i:Int):=by
  exact Yg hx1 (by simpa using h2) hn
 · (try rw [hf_]);(simp only [JL];done)
 try simp only [BB] at h2
 refine Jm (JM (Ja (Jb (Jd [0,0] [(0,Sl (At b1 o1) l.length c_l),(1,.func (.func k_f) #[] caps_f),(7,I (l.length:Int)),(8,I (IntKind.i64.wrap ((i:Int)+1)))] ?_))))
 have e1:IntKind.i64.wrap ((i:Int)+1)=(i:Int)+1:=IntWalk.i64_in _ (by omega)
 refine J3 (fr':=[(0,Sl (At b1 o1) l.length c_l),(1,.func (.func k_f) #[] caps_f),(7,I (l.length:Int)),(8,I ((i:Int)+1))]) (L':=[]) (by simp only [e1]) (by rfl) ?_
 clear e1
 exact Jc (Qg (i+1) ⟨(by omega),(YJ hx1 (by simpa using h2) hn)⟩ (by (try dsimp only);omega))
 try simp only [BB] at h1
 refine K0 (J2 (Kf (JU (Ja (Jg [0] [(4,I (-1))] (Jk (Jl [0] [I (-1)] (Jv (Jt.le_refl _) ?_))))))))
 have hf_:(K9 p_f l)=(-1):=by
  exact ZT (by rw [List.take_of_length_le (by omega)] at hn;exact hn)
 · (try rw [hf_]);(simp only [JL];done)
theorem JjI (G:Jt) (a_l:Option Addr) (c_l:Nat) (l:List JV) (h_l:RS Qo G a_l c_l l) (k_f:FuncId) (caps_f:Array Value) (p_f:JV→Bool) (hk_f:VR Tryz.prog k_f) (h_f:∀ (vs0:List Value) (x0:JV) (hx0:Qo.R G vs0 x0),QF Tryz.prog k_f (#[.agg vs0.toArray]++caps_f) G [] (fun u _ _=>u=Bo (p_f x0))) :QF Tryz.prog 206 #[Sl a_l l.length c_l,.func (.func k_f) #[] caps_f] G [] (fun u G' L'=>u=Bo (l.any p_f)):=by
 refine JJ Tryz.func206 9 [(0,Sl a_l l.length c_l),(1,.func (.func k_f) #[] caps_f)] rfl (fun w0 G0=>?_)
 refine Jg [0] [(0,Sl a_l l.length c_l),(1,.func (.func k_f) #[] caps_f)] (Je (Jb (Jd [0,0] [(5,Sl a_l l.length c_l),(6,.func (.func k_f) #[] caps_f)] (Ji 7 (I (K9 p_f l)) (JdT G a_l c_l l h_l k_f caps_f p_f hk_f h_f) (Jd [0,0] [(4,Bo (decide (K9 p_f l ≥ 0)))] (Jc (Ja (Jk (Jl [0] [Bo (decide (K9 p_f l ≥ 0))] (Jv (Jt.le_refl _) ?_))))))))))
 have hf_:(l.any p_f)=(decide (K9 p_f l ≥ 0)):=by
  rw [YK]
 · (try rw [hf_]);(simp only [JL];done)
theorem JjJ (G:Jt) (a_l:Option Addr) (c_l:Nat) (l:List Int) (h_l:RS EI G a_l c_l l) :QF Tryz.prog 72 #[Sl a_l l.length c_l] G [] (fun u G' L'=>∃ (a1:Option Addr) (c2:Nat) (r3:List Ks),u=Sl a1 l.length c2∧(J9 EI G' a1 c2 l r3)∧L'=[r3]):=by
 refine JJ Tryz.func72 8 [(0,Sl a_l l.length c_l)] rfl (fun w0 G0=>?_)
 refine Jg [0] [(0,Sl a_l l.length c_l)] (Je (Je (Jb (Jd [0] [(0,Sl a_l l.length c_l),(3,Sl a_l l.length c_l)] (Jab 4 (Bo ((a_l).isNone)) (by intro w;cases a_l <;> kernel_rfl) (Jc (Ja (Jo ((a_l).isNone) (fun h1=>?_) (fun h1=>?_)))))))))
 try simp only [BB] at h1
 refine Jg [0] [(2,Sl none 0 0)] (Jk (Jh (Zb (Jj 0 ?_))))
 have hf1:l=[]:=by
  exact RS.isNil h_l h1
 refine Jl [0] [Sl none 0 0] (JY [[]] (.cons_cons _ .slnil) (Jt.le_refl _) ?_)
 rw [hf1]
 try dsimp only
 exact ⟨none,0,([]),rfl,(J9.none EI _),rfl⟩
 try simp only [BB] at h1
 refine Jm (Ja (Je (Jb (KH 5 0 #[] 3 (fun b1=>Jd [0] [(5,Sl (At b1 0) 0 0),(6,Sl a_l l.length c_l)] (Vv 7 3 0 (J9.of_lit (E:=EI) (b:=b1) [] [] trivial (by simp)) h_l (fun a1 c1 r1 hr1=>Jd [0] [(2,Sl a1 l.length c1)] (Jc (Ja (Jk (Jj 0 ?_)))))))))))
 have hf2:l=l:=by
  rfl
 refine Jl [0] [Sl a1 l.length c1] (JY [r1] (.cons_cons _ .slnil) (Jt.le_refl _) ?_)
 rw [hf2]
 try dsimp only
 exact ⟨a1,c1,r1,rfl,hr1,rfl⟩
theorem Jk3 (G:Jt) (a_l:Option Addr) (c_l:Nat) (l:List Int) (h_l:RS EI G a_l c_l l) (k_f:FuncId) (caps_f:Array Value) (p_f:Int→Bool) (hk_f:VR Tryz.prog k_f) (h_f:∀ (x0:Int) (hx0:rI x0),QF Tryz.prog k_f (#[I x0]++caps_f) G [] (fun u _ _=>u=Bo (p_f x0))) :QF Tryz.prog 148 #[Sl a_l l.length c_l,.func (.func k_f) #[] caps_f] G [] (fun u G' L'=>u=I (K9 p_f l)):=by
 refine JJ Tryz.func148 19 [(0,Sl a_l l.length c_l),(1,.func (.func k_f) #[] caps_f)] rfl (fun w0 G0=>?_)
 refine Jg [0] [(0,Sl a_l l.length c_l),(1,.func (.func k_f) #[] caps_f)] (Je (Jg [0,0,0] [(0,Sl a_l l.length c_l),(1,.func (.func k_f) #[] caps_f),(7,I (l.length:Int)),(8,I 0)] (Jz ?_)))
 have hlm_h_l:l.length≤9223372036854775807:=Nat.le_trans (h_l).le (h_l).max
 refine Qc (σ:=Nat) (fun q_=>(q_≤l.length)∧((l.take q_).any p_f=false)) (fun q_=>[(0,Sl a_l l.length c_l),(1,.func (.func k_f) #[] caps_f),(7,I (l.length:Int)),(8,I (q_:Int))]) (fun q_=>G) (fun q_=>[]) (fun q_=>l.length-q_) 0 ⟨(by (try dsimp only);exact Nat.zero_le _),(by (try dsimp only);simp)⟩ (fun q_ hs=>?_)
 revert hs;revert q_;intro i hs
 obtain ⟨hi,hn⟩:=hs
 refine KQ (fr':=[(0,Sl a_l l.length c_l),(1,.func (.func k_f) #[] caps_f),(7,I (l.length:Int)),(8,I (i:Int))]) (L':=[]) rfl rfl (Jg [0] [(0,Sl a_l l.length c_l),(1,.func (.func k_f) #[] caps_f),(7,I (l.length:Int)),(8,I (i:Int)),(9,Bo (decide ((i:Int)<(l.length:Int))))] (Je (Jo (decide ((i:Int)<(l.length:Int))) (fun h1=>?_) (fun h1=>?_))))
 try simp only [BB] at h1
 refine Jm (Ja (Je (Jz (Jg [0,0] [(0,Sl a_l l.length c_l),(1,.func (.func k_f) #[] caps_f),(5,I (i:Int)),(7,I (l.length:Int)),(8,I (i:Int))] (Je (Jb (Jd [0,0,0] [(0,Sl a_l l.length c_l),(1,.func (.func k_f) #[] caps_f),(5,I (i:Int)),(7,I (l.length:Int)),(8,I (i:Int)),(11,.func (.func k_f) #[] caps_f),(12,Sl a_l l.length c_l),(13,I (i:Int))] ?_)))))))
 obtain ⟨b1,o1,rfl⟩:=RS.addr h_l (k:=i) (by omega)
 obtain ⟨x1,hx1⟩:=Wh (l:=l) (k:=i) (by omega)
 obtain ⟨_,⟨rfl,w1⟩,hc1⟩:=RS.get h_l hx1
 refine Kh (b:=b1) (off:=o1) (len:=l.length) (cap:=c_l) (ik:=.i64) 14 3 1 i (by omega) (Ka 15 3 (cs:=[I x1]) 0 (I x1) hc1 (W2 (k:=k_f) (caps:=caps_f) (args:=#[I x1]) 16 (Bo (p_f x1)) hk_f (h_f x1 w1) (Jc (Ja (Jo (p_f x1) (fun h2=>?_) (fun h2=>?_))))))
 try simp only [BB] at h2
 refine Jg [0,0] [(4,I (i:Int))] (Jk (Js (Jh (QC (Js (Jh (Jl [0] [I (i:Int)] (Jv (Jt.le_refl _) ?_))))))))
 have hf_:(K9 p_f l)=(i:Int):=by
  exact Yg hx1 (by simpa using h2) hn
 · (try rw [hf_]);(simp only [JL];done)
 try simp only [BB] at h2
 refine Jm (JM (Ja (Jb (Jd [0,0] [(0,Sl (At b1 o1) l.length c_l),(1,.func (.func k_f) #[] caps_f),(7,I (l.length:Int)),(8,I (IntKind.i64.wrap ((i:Int)+1)))] ?_))))
 have e1:IntKind.i64.wrap ((i:Int)+1)=(i:Int)+1:=IntWalk.i64_in _ (by omega)
 refine J3 (fr':=[(0,Sl (At b1 o1) l.length c_l),(1,.func (.func k_f) #[] caps_f),(7,I (l.length:Int)),(8,I ((i:Int)+1))]) (L':=[]) (by simp only [e1]) (by rfl) ?_
 clear e1
 exact Jc (Qg (i+1) ⟨(by omega),(YJ hx1 (by simpa using h2) hn)⟩ (by (try dsimp only);omega))
 try simp only [BB] at h1
 refine K0 (J2 (Kf (JU (Ja (Jg [0] [(4,I (-1))] (Jk (Jl [0] [I (-1)] (Jv (Jt.le_refl _) ?_))))))))
 have hf_:(K9 p_f l)=(-1):=by
  exact ZT (by rw [List.take_of_length_le (by omega)] at hn;exact hn)
 · (try rw [hf_]);(simp only [JL];done)
theorem Jmr (G:Jt) (a_l:Option Addr) (c_l:Nat) (l:List Int) (h_l:RS EI G a_l c_l l) (k_f:FuncId) (caps_f:Array Value) (p_f:Int→Bool) (hk_f:VR Tryz.prog k_f) (h_f:∀ (x0:Int) (hx0:rI x0),QF Tryz.prog k_f (#[I x0]++caps_f) G [] (fun u _ _=>u=Bo (p_f x0))) :QF Tryz.prog 110 #[Sl a_l l.length c_l,.func (.func k_f) #[] caps_f] G [] (fun u G' L'=>u=Bo (l.any p_f)):=by
 refine JJ Tryz.func110 9 [(0,Sl a_l l.length c_l),(1,.func (.func k_f) #[] caps_f)] rfl (fun w0 G0=>?_)
 refine Jg [0] [(0,Sl a_l l.length c_l),(1,.func (.func k_f) #[] caps_f)] (Je (Jb (Jd [0,0] [(5,Sl a_l l.length c_l),(6,.func (.func k_f) #[] caps_f)] (Ji 7 (I (K9 p_f l)) (Jk3 G a_l c_l l h_l k_f caps_f p_f hk_f h_f) (Jd [0,0] [(4,Bo (decide (K9 p_f l ≥ 0)))] (Jc (Ja (Jk (Jl [0] [Bo (decide (K9 p_f l ≥ 0))] (Jv (Jt.le_refl _) ?_))))))))))
 have hf_:(l.any p_f)=(decide (K9 p_f l ≥ 0)):=by
  rw [YK]
 · (try rw [hf_]);(simp only [JL];done)
theorem Z4 (G:Jt) (a_l:Option Addr) (c_l:Nat) (l:List WT) (h_l:RS QV G a_l c_l l) :QF Tryz.prog 96 #[Sl a_l l.length c_l] G [] (fun u G' L'=>∃ (a1:Option Addr) (c2:Nat) (r3:List Ks),u=Sl a1 l.length c2∧(J9 QV G' a1 c2 l r3)∧L'=[r3]):=by
 refine JJ Tryz.func96 8 [(0,Sl a_l l.length c_l)] rfl (fun w0 G0=>?_)
 refine Jg [0] [(0,Sl a_l l.length c_l)] (Je (Je (Jb (Jd [0] [(0,Sl a_l l.length c_l),(3,Sl a_l l.length c_l)] (Jab 4 (Bo ((a_l).isNone)) (by intro w;cases a_l <;> kernel_rfl) (Jc (Ja (Jo ((a_l).isNone) (fun h1=>?_) (fun h1=>?_)))))))))
 try simp only [BB] at h1
 refine Jg [0] [(2,Sl none 0 0)] (Jk (Jh (Zb (Jj 0 ?_))))
 have hf1:l=[]:=by
  exact RS.isNil h_l h1
 refine Jl [0] [Sl none 0 0] (JY [[]] (.cons_cons _ .slnil) (Jt.le_refl _) ?_)
 rw [hf1]
 try dsimp only
 exact ⟨none,0,([]),rfl,(J9.none QV _),rfl⟩
 try simp only [BB] at h1
 refine Jm (Ja (Je (Jb (KH 5 0 #[] 83 (fun b1=>Jd [0] [(5,Sl (At b1 0) 0 0),(6,Sl a_l l.length c_l)] (Vv 7 83 0 (J9.of_lit (E:=QV) (b:=b1) [] [] trivial (by simp)) h_l (fun a1 c1 r1 hr1=>Jd [0] [(2,Sl a1 l.length c1)] (Jc (Ja (Jk (Jj 0 ?_)))))))))))
 have hf2:l=l:=by
  rfl
 refine Jl [0] [Sl a1 l.length c1] (JY [r1] (.cons_cons _ .slnil) (Jt.le_refl _) ?_)
 rw [hf2]
 try dsimp only
 exact ⟨a1,c1,r1,rfl,hr1,rfl⟩
theorem YM (G:Jt) (a_l:Option Addr) (c_l:Nat) (l:List JR) (h_l:RS KE G a_l c_l l) :QF Tryz.prog 97 #[Sl a_l l.length c_l] G [] (fun u G' L'=>∃ (a1:Option Addr) (c2:Nat) (r3:List Ks),u=Sl a1 l.length c2∧(J9 KE G' a1 c2 l r3)∧L'=[r3]):=by
 refine JJ Tryz.func97 8 [(0,Sl a_l l.length c_l)] rfl (fun w0 G0=>?_)
 refine Jg [0] [(0,Sl a_l l.length c_l)] (Je (Je (Jb (Jd [0] [(0,Sl a_l l.length c_l),(3,Sl a_l l.length c_l)] (Jab 4 (Bo ((a_l).isNone)) (by intro w;cases a_l <;> kernel_rfl) (Jc (Ja (Jo ((a_l).isNone) (fun h1=>?_) (fun h1=>?_)))))))))
 try simp only [BB] at h1
 refine Jg [0] [(2,Sl none 0 0)] (Jk (Jh (Zb (Jj 0 ?_))))
 have hf1:l=[]:=by
  exact RS.isNil h_l h1
 refine Jl [0] [Sl none 0 0] (JY [[]] (.cons_cons _ .slnil) (Jt.le_refl _) ?_)
 rw [hf1]
 try dsimp only
 exact ⟨none,0,([]),rfl,(J9.none KE _),rfl⟩
 try simp only [BB] at h1
 refine Jm (Ja (Je (Jb (KH 5 0 #[] 50 (fun b1=>Jd [0] [(5,Sl (At b1 0) 0 0),(6,Sl a_l l.length c_l)] (Vv 7 50 0 (J9.of_lit (E:=KE) (b:=b1) [] [] trivial (by simp)) h_l (fun a1 c1 r1 hr1=>Jd [0] [(2,Sl a1 l.length c1)] (Jc (Ja (Jk (Jj 0 ?_)))))))))))
 have hf2:l=l:=by
  rfl
 refine Jl [0] [Sl a1 l.length c1] (JY [r1] (.cons_cons _ .slnil) (Jt.le_refl _) ?_)
 rw [hf2]
 try dsimp only
 exact ⟨a1,c1,r1,rfl,hr1,rfl⟩
theorem JgO (G:Jt) (a_l:Option Addr) (c_l:Nat) (l:List JR) (h_l:RS KE G a_l c_l l) (k_f:FuncId) (caps_f:Array Value) (p_f:JR→Bool) (hk_f:VR Tryz.prog k_f) (h_f:∀ (vs0:List Value) (x0:JR) (hx0:KE.R G vs0 x0),QF Tryz.prog k_f (#[.agg vs0.toArray]++caps_f) G [] (fun u _ _=>u=Bo (p_f x0))) :QF Tryz.prog 215 #[Sl a_l l.length c_l,.func (.func k_f) #[] caps_f] G [] (fun u G' L'=>u=I (K9 p_f l)):=by
 refine JJ Tryz.func215 19 [(0,Sl a_l l.length c_l),(1,.func (.func k_f) #[] caps_f)] rfl (fun w0 G0=>?_)
 refine Jg [0] [(0,Sl a_l l.length c_l),(1,.func (.func k_f) #[] caps_f)] (Je (Jg [0,0,0] [(0,Sl a_l l.length c_l),(1,.func (.func k_f) #[] caps_f),(7,I (l.length:Int)),(8,I 0)] (Jz ?_)))
 have hlm_h_l:l.length≤9223372036854775807:=Nat.le_trans (h_l).le (h_l).max
 refine Qc (σ:=Nat) (fun q_=>(q_≤l.length)∧((l.take q_).any p_f=false)) (fun q_=>[(0,Sl a_l l.length c_l),(1,.func (.func k_f) #[] caps_f),(7,I (l.length:Int)),(8,I (q_:Int))]) (fun q_=>G) (fun q_=>[]) (fun q_=>l.length-q_) 0 ⟨(by (try dsimp only);exact Nat.zero_le _),(by (try dsimp only);simp)⟩ (fun q_ hs=>?_)
 revert hs;revert q_;intro i hs
 obtain ⟨hi,hn⟩:=hs
 refine KQ (fr':=[(0,Sl a_l l.length c_l),(1,.func (.func k_f) #[] caps_f),(7,I (l.length:Int)),(8,I (i:Int))]) (L':=[]) rfl rfl (Jg [0] [(0,Sl a_l l.length c_l),(1,.func (.func k_f) #[] caps_f),(7,I (l.length:Int)),(8,I (i:Int)),(9,Bo (decide ((i:Int)<(l.length:Int))))] (Je (Jo (decide ((i:Int)<(l.length:Int))) (fun h1=>?_) (fun h1=>?_))))
 try simp only [BB] at h1
 refine Jm (Ja (Je (Jz (Jg [0,0] [(0,Sl a_l l.length c_l),(1,.func (.func k_f) #[] caps_f),(5,I (i:Int)),(7,I (l.length:Int)),(8,I (i:Int))] (Je (Jb (Jd [0,0,0] [(0,Sl a_l l.length c_l),(1,.func (.func k_f) #[] caps_f),(5,I (i:Int)),(7,I (l.length:Int)),(8,I (i:Int)),(11,.func (.func k_f) #[] caps_f),(12,Sl a_l l.length c_l),(13,I (i:Int))] ?_)))))))
 obtain ⟨b1,o1,rfl⟩:=RS.addr h_l (k:=i) (by omega)
 obtain ⟨x1,hx1⟩:=Wh (l:=l) (k:=i) (by omega)
 obtain ⟨_,⟨rfl,w1,w2,w3,w4⟩,hc1⟩:=RS.get h_l hx1
 refine Kh (b:=b1) (off:=o1) (len:=l.length) (cap:=c_l) (ik:=.i64) 14 50 4 i (by omega) (Ka 15 50 (cs:=[I x1.epoch,U x1.root,U x1.prev,I x1.at_]) 0 (.agg #[I x1.epoch,U x1.root,U x1.prev,I x1.at_]) hc1 (W2 (k:=k_f) (caps:=caps_f) (args:=#[.agg #[I x1.epoch,U x1.root,U x1.prev,I x1.at_]]) 16 (Bo (p_f x1)) hk_f (h_f [I x1.epoch,U x1.root,U x1.prev,I x1.at_] x1 (⟨rfl,w1,w2,w3,w4⟩)) (Jc (Ja (Jo (p_f x1) (fun h2=>?_) (fun h2=>?_))))))
 try simp only [BB] at h2
 refine Jg [0,0] [(4,I (i:Int))] (Jk (Js (Jh (QC (Js (Jh (Jl [0] [I (i:Int)] (Jv (Jt.le_refl _) ?_))))))))
 have hf_:(K9 p_f l)=(i:Int):=by
  exact Yg hx1 (by simpa using h2) hn
 · (try rw [hf_]);(simp only [JL];done)
 try simp only [BB] at h2
 refine Jm (JM (Ja (Jb (Jd [0,0] [(0,Sl (At b1 o1) l.length c_l),(1,.func (.func k_f) #[] caps_f),(7,I (l.length:Int)),(8,I (IntKind.i64.wrap ((i:Int)+1)))] ?_))))
 have e1:IntKind.i64.wrap ((i:Int)+1)=(i:Int)+1:=IntWalk.i64_in _ (by omega)
 refine J3 (fr':=[(0,Sl (At b1 o1) l.length c_l),(1,.func (.func k_f) #[] caps_f),(7,I (l.length:Int)),(8,I ((i:Int)+1))]) (L':=[]) (by simp only [e1]) (by rfl) ?_
 clear e1
 exact Jc (Qg (i+1) ⟨(by omega),(YJ hx1 (by simpa using h2) hn)⟩ (by (try dsimp only);omega))
 try simp only [BB] at h1
 refine K0 (J2 (Kf (JU (Ja (Jg [0] [(4,I (-1))] (Jk (Jl [0] [I (-1)] (Jv (Jt.le_refl _) ?_))))))))
 have hf_:(K9 p_f l)=(-1):=by
  exact ZT (by rw [List.take_of_length_le (by omega)] at hn;exact hn)
 · (try rw [hf_]);(simp only [JL];done)
theorem JdU (G:Jt) (a_l:Option Addr) (c_l:Nat) (l:List JR) (h_l:RS KE G a_l c_l l) (k_f:FuncId) (caps_f:Array Value) (p_f:JR→Bool) (hk_f:VR Tryz.prog k_f) (h_f:∀ (vs0:List Value) (x0:JR) (hx0:KE.R G vs0 x0),QF Tryz.prog k_f (#[.agg vs0.toArray]++caps_f) G [] (fun u _ _=>u=Bo (p_f x0))) :QF Tryz.prog 204 #[Sl a_l l.length c_l,.func (.func k_f) #[] caps_f] G [] (fun u G' L'=>u=Bo (l.any p_f)):=by
 refine JJ Tryz.func204 9 [(0,Sl a_l l.length c_l),(1,.func (.func k_f) #[] caps_f)] rfl (fun w0 G0=>?_)
 refine Jg [0] [(0,Sl a_l l.length c_l),(1,.func (.func k_f) #[] caps_f)] (Je (Jb (Jd [0,0] [(5,Sl a_l l.length c_l),(6,.func (.func k_f) #[] caps_f)] (Ji 7 (I (K9 p_f l)) (JgO G a_l c_l l h_l k_f caps_f p_f hk_f h_f) (Jd [0,0] [(4,Bo (decide (K9 p_f l ≥ 0)))] (Jc (Ja (Jk (Jl [0] [Bo (decide (K9 p_f l ≥ 0))] (Jv (Jt.le_refl _) ?_))))))))))
 have hf_:(l.any p_f)=(decide (K9 p_f l ≥ 0)):=by
  rw [YK]
 · (try rw [hf_]);(simp only [JL];done)
theorem JjK (G:Jt) (a_l:Option Addr) (c_l:Nat) (l:List Int) (h_l:RS EU G a_l c_l l) :QF Tryz.prog 149 #[Sl a_l l.length c_l] G [] (fun u G' L'=>∃ (a1:Option Addr) (c2:Nat) (r3:List Ks),u=Sl a1 l.length c2∧(J9 EU G' a1 c2 l r3)∧L'=[r3]):=by
 refine JJ Tryz.func149 8 [(0,Sl a_l l.length c_l)] rfl (fun w0 G0=>?_)
 refine Jg [0] [(0,Sl a_l l.length c_l)] (Je (Je (Jb (Jd [0] [(0,Sl a_l l.length c_l),(3,Sl a_l l.length c_l)] (Jab 4 (Bo ((a_l).isNone)) (by intro w;cases a_l <;> kernel_rfl) (Jc (Ja (Jo ((a_l).isNone) (fun h1=>?_) (fun h1=>?_)))))))))
 try simp only [BB] at h1
 refine Jg [0] [(2,Sl none 0 0)] (Jk (Jh (Zb (Jj 0 ?_))))
 have hf1:l=[]:=by
  exact RS.isNil h_l h1
 refine Jl [0] [Sl none 0 0] (JY [[]] (.cons_cons _ .slnil) (Jt.le_refl _) ?_)
 rw [hf1]
 try dsimp only
 exact ⟨none,0,([]),rfl,(J9.none EU _),rfl⟩
 try simp only [BB] at h1
 refine Jm (Ja (Je (Jb (KH 5 0 #[] 48 (fun b1=>Jd [0] [(5,Sl (At b1 0) 0 0),(6,Sl a_l l.length c_l)] (Vv 7 48 0 (J9.of_lit (E:=EU) (b:=b1) [] [] trivial (by simp)) h_l (fun a1 c1 r1 hr1=>Jd [0] [(2,Sl a1 l.length c1)] (Jc (Ja (Jk (Jj 0 ?_)))))))))))
 have hf2:l=l:=by
  rfl
 refine Jl [0] [Sl a1 l.length c1] (JY [r1] (.cons_cons _ .slnil) (Jt.le_refl _) ?_)
 rw [hf2]
 try dsimp only
 exact ⟨a1,c1,r1,rfl,hr1,rfl⟩
theorem Jk4 (G:Jt) (a_l:Option Addr) (c_l:Nat) (l:List Int) (h_l:RS EU G a_l c_l l) (k_f:FuncId) (caps_f:Array Value) (p_f:Int→Bool) (hk_f:VR Tryz.prog k_f) (h_f:∀ (x0:Int) (hx0:rU x0),QF Tryz.prog k_f (#[U x0]++caps_f) G [] (fun u _ _=>u=Bo (p_f x0))) :QF Tryz.prog 216 #[Sl a_l l.length c_l,.func (.func k_f) #[] caps_f] G [] (fun u G' L'=>u=I (K9 p_f l)):=by
 refine JJ Tryz.func216 19 [(0,Sl a_l l.length c_l),(1,.func (.func k_f) #[] caps_f)] rfl (fun w0 G0=>?_)
 refine Jg [0] [(0,Sl a_l l.length c_l),(1,.func (.func k_f) #[] caps_f)] (Je (Jg [0,0,0] [(0,Sl a_l l.length c_l),(1,.func (.func k_f) #[] caps_f),(7,I (l.length:Int)),(8,I 0)] (Jz ?_)))
 have hlm_h_l:l.length≤9223372036854775807:=Nat.le_trans (h_l).le (h_l).max
 refine Qc (σ:=Nat) (fun q_=>(q_≤l.length)∧((l.take q_).any p_f=false)) (fun q_=>[(0,Sl a_l l.length c_l),(1,.func (.func k_f) #[] caps_f),(7,I (l.length:Int)),(8,I (q_:Int))]) (fun q_=>G) (fun q_=>[]) (fun q_=>l.length-q_) 0 ⟨(by (try dsimp only);exact Nat.zero_le _),(by (try dsimp only);simp)⟩ (fun q_ hs=>?_)
 revert hs;revert q_;intro i hs
 obtain ⟨hi,hn⟩:=hs
 refine KQ (fr':=[(0,Sl a_l l.length c_l),(1,.func (.func k_f) #[] caps_f),(7,I (l.length:Int)),(8,I (i:Int))]) (L':=[]) rfl rfl (Jg [0] [(0,Sl a_l l.length c_l),(1,.func (.func k_f) #[] caps_f),(7,I (l.length:Int)),(8,I (i:Int)),(9,Bo (decide ((i:Int)<(l.length:Int))))] (Je (Jo (decide ((i:Int)<(l.length:Int))) (fun h1=>?_) (fun h1=>?_))))
 try simp only [BB] at h1
 refine Jm (Ja (Je (Jz (Jg [0,0] [(0,Sl a_l l.length c_l),(1,.func (.func k_f) #[] caps_f),(5,I (i:Int)),(7,I (l.length:Int)),(8,I (i:Int))] (Je (Jb (Jd [0,0,0] [(0,Sl a_l l.length c_l),(1,.func (.func k_f) #[] caps_f),(5,I (i:Int)),(7,I (l.length:Int)),(8,I (i:Int)),(11,.func (.func k_f) #[] caps_f),(12,Sl a_l l.length c_l),(13,I (i:Int))] ?_)))))))
 obtain ⟨b1,o1,rfl⟩:=RS.addr h_l (k:=i) (by omega)
 obtain ⟨x1,hx1⟩:=Wh (l:=l) (k:=i) (by omega)
 obtain ⟨_,⟨rfl,w1⟩,hc1⟩:=RS.get h_l hx1
 refine Kh (b:=b1) (off:=o1) (len:=l.length) (cap:=c_l) (ik:=.i64) 14 48 1 i (by omega) (Ka 15 48 (cs:=[U x1]) 0 (U x1) hc1 (W2 (k:=k_f) (caps:=caps_f) (args:=#[U x1]) 16 (Bo (p_f x1)) hk_f (h_f x1 w1) (Jc (Ja (Jo (p_f x1) (fun h2=>?_) (fun h2=>?_))))))
 try simp only [BB] at h2
 refine Jg [0,0] [(4,I (i:Int))] (Jk (Js (Jh (QC (Js (Jh (Jl [0] [I (i:Int)] (Jv (Jt.le_refl _) ?_))))))))
 have hf_:(K9 p_f l)=(i:Int):=by
  exact Yg hx1 (by simpa using h2) hn
 · (try rw [hf_]);(simp only [JL];done)
 try simp only [BB] at h2
 refine Jm (JM (Ja (Jb (Jd [0,0] [(0,Sl (At b1 o1) l.length c_l),(1,.func (.func k_f) #[] caps_f),(7,I (l.length:Int)),(8,I (IntKind.i64.wrap ((i:Int)+1)))] ?_))))
 have e1:IntKind.i64.wrap ((i:Int)+1)=(i:Int)+1:=IntWalk.i64_in _ (by omega)
 refine J3 (fr':=[(0,Sl (At b1 o1) l.length c_l),(1,.func (.func k_f) #[] caps_f),(7,I (l.length:Int)),(8,I ((i:Int)+1))]) (L':=[]) (by simp only [e1]) (by rfl) ?_
 clear e1
 exact Jc (Qg (i+1) ⟨(by omega),(YJ hx1 (by simpa using h2) hn)⟩ (by (try dsimp only);omega))
 try simp only [BB] at h1
 refine K0 (J2 (Kf (JU (Ja (Jg [0] [(4,I (-1))] (Jk (Jl [0] [I (-1)] (Jv (Jt.le_refl _) ?_))))))))
 have hf_:(K9 p_f l)=(-1):=by
  exact ZT (by rw [List.take_of_length_le (by omega)] at hn;exact hn)
 · (try rw [hf_]);(simp only [JL];done)
theorem Jms (G:Jt) (a_l:Option Addr) (c_l:Nat) (l:List Int) (h_l:RS EU G a_l c_l l) (k_f:FuncId) (caps_f:Array Value) (p_f:Int→Bool) (hk_f:VR Tryz.prog k_f) (h_f:∀ (x0:Int) (hx0:rU x0),QF Tryz.prog k_f (#[U x0]++caps_f) G [] (fun u _ _=>u=Bo (p_f x0))) :QF Tryz.prog 208 #[Sl a_l l.length c_l,.func (.func k_f) #[] caps_f] G [] (fun u G' L'=>u=Bo (l.any p_f)):=by
 refine JJ Tryz.func208 9 [(0,Sl a_l l.length c_l),(1,.func (.func k_f) #[] caps_f)] rfl (fun w0 G0=>?_)
 refine Jg [0] [(0,Sl a_l l.length c_l),(1,.func (.func k_f) #[] caps_f)] (Je (Jb (Jd [0,0] [(5,Sl a_l l.length c_l),(6,.func (.func k_f) #[] caps_f)] (Ji 7 (I (K9 p_f l)) (Jk4 G a_l c_l l h_l k_f caps_f p_f hk_f h_f) (Jd [0,0] [(4,Bo (decide (K9 p_f l ≥ 0)))] (Jc (Ja (Jk (Jl [0] [Bo (decide (K9 p_f l ≥ 0))] (Jv (Jt.le_refl _) ?_))))))))))
 have hf_:(l.any p_f)=(decide (K9 p_f l ≥ 0)):=by
  rw [YK]
 · (try rw [hf_]);(simp only [JL];done)
end Go.Proofs.YtnnlpbjdignhaaaGreatDoor
