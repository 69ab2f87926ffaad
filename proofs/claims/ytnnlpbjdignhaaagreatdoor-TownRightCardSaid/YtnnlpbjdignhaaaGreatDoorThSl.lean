import Derived.Test.YtnnlpbjdignhaaaGreatDoorThTy
namespace Go.Proofs.YtnnlpbjdignhaaaGreatDoor
open Go.Tx
set_option linter.unusedVariables false
set_option linter.unusedSimpArgs false
theorem Jgm {x y:JS}:x = y ↔ x.epoch = y.epoch ∧ x.root = y.root ∧ x.prev = y.prev ∧ x.at_ = y.at_:=by cases x;cases y;simp
theorem Jk8 {α:Type} {p:α → Bool} {l:List α} {i:Nat} (h:Jbm p l = (i:Int)):∃ x,l[i]? = some x ∧ p x = true:=by
 unfold Jbm at h
 cases hh:l.findIdx? p with
 | none=>rw [hh] at h;simp at h
 | some k =>
  rw [hh] at h
  have:k = i:=by simp at h;omega
  subst this
  rw [List.findIdx?_eq_some_iff_getElem] at hh
  obtain ⟨h1,h2,_⟩:=hh
  exact ⟨l[k],List.getElem?_eq_getElem h1,h2⟩
theorem JjT (G:Jt) (a_l:Option Addr) (c_l:Nat) (l:List JV) (h_l:RS Jaj G a_l c_l l) (k_f:FuncId) (caps_f:Array Value) (p_f:JV → Bool) (hk_f:Jgc Tryz.prog k_f) (h_f:∀ (vs0:List Value) (x0:JV) (hx0:Jaj.R G vs0 x0),Con Tryz.prog k_f (#[.agg vs0.toArray] ++ caps_f) G [] (fun u _ _=>u = Bo (p_f x0))) :Con Tryz.prog 80 #[Sl a_l l.length c_l,.func (.func k_f) #[] caps_f] G [] (fun u G' L'=>u = I (Jbm p_f l)):=by
 refine JL Tryz.func80 19 [(0,Sl a_l l.length c_l),(1,.func (.func k_f) #[] caps_f)] rfl (fun w0 G0=>?_)
 refine Jg [0] [(0,Sl a_l l.length c_l),(1,.func (.func k_f) #[] caps_f)] (Je ?_)
 refine Jg [0,0,0] [(0,Sl a_l l.length c_l),(1,.func (.func k_f) #[] caps_f),(7,I (l.length:Int)),(8,I 0)] (Jy ?_)
 have hlm_h_l:l.length ≤ 9223372036854775807:=Nat.le_trans (h_l).le (h_l).max
 refine Ja8 (σ:=Nat) (fun q_=>(q_ ≤ l.length) ∧ ((l.take q_).any p_f = false)) (fun q_=>[(0,Sl a_l l.length c_l),(1,.func (.func k_f) #[] caps_f),(7,I (l.length:Int)),(8,I (q_:Int))]) (fun q_=>G) (fun q_=>[]) (fun q_=>l.length - q_) 0 ⟨(by (try dsimp only);exact Nat.zero_le _),(by (try dsimp only);simp)⟩ (fun q_ hs=>?_)
 revert hs;revert q_;intro i hs
 obtain ⟨hi,hn⟩:=hs
 refine JaJ (fr':=[(0,Sl a_l l.length c_l),(1,.func (.func k_f) #[] caps_f),(7,I (l.length:Int)),(8,I (i:Int))]) (L':=[]) rfl rfl ?_
 refine Jg [0] [(0,Sl a_l l.length c_l),(1,.func (.func k_f) #[] caps_f),(7,I (l.length:Int)),(8,I (i:Int)),(9,Bo (decide ((i:Int) < (l.length:Int))))] (Je ?_)
 refine Jo (decide ((i:Int) < (l.length:Int))) (fun h1=>?_) (fun h1=>?_)
 try simp only [BB] at h1
 refine Jn (Ja (Je (Jy ?_)))
 refine Jg [0,0] [(0,Sl a_l l.length c_l),(1,.func (.func k_f) #[] caps_f),(5,I (i:Int)),(7,I (l.length:Int)),(8,I (i:Int))] (Je (Jb ?_))
 refine Jd [0,0,0] [(0,Sl a_l l.length c_l),(1,.func (.func k_f) #[] caps_f),(5,I (i:Int)),(7,I (l.length:Int)),(8,I (i:Int)),(11,.func (.func k_f) #[] caps_f),(12,Sl a_l l.length c_l),(13,I (i:Int))] ?_
 obtain ⟨b1,o1,rfl⟩:=RS.addr h_l (k:=i) (by omega)
 obtain ⟨x1,hx1⟩:=Jb1 (l:=l) (k:=i) (by omega)
 obtain ⟨_,⟨a1,c1,a2,c2,a3,c3,rfl,w1,w2,w3,w4,hs1,w5,w6,w7,w8,w9,hs2,hs3⟩,hc1⟩:=RS.get h_l hx1
 refine Jac (b:=b1) (off:=o1) (len:=l.length) (cap:=c_l) (ik:=.i64) 14 72 12 i (by omega) ?_
 refine J6 15 72 (cs:=(J3 x1 a1 c1 a2 c2 a3 c3)) 0 (JaV x1 a1 c1 a2 c2 a3 c3) hc1 ?_
 refine Jdm (k:=k_f) (caps:=caps_f) (args:=#[(JaV x1 a1 c1 a2 c2 a3 c3)]) 16 (Bo (p_f x1)) hk_f (h_f (J3 x1 a1 c1 a2 c2 a3 c3) x1 (⟨a1,c1,a2,c2,a3,c3,rfl,w1,w2,w3,w4,hs1,w5,w6,w7,w8,w9,hs2,hs3⟩)) ?_
 refine Jc (Ja ?_)
 refine Jo (p_f x1) (fun h2=>?_) (fun h2=>?_)
 try simp only [BB] at h2
 refine Jg [0,0] [(4,I (i:Int))] (Jk (Js (Jh (Jbc (Js (Jh ?_))))))
 refine Jl [0] [I (i:Int)] (Jw (Jt.le_refl _) ?_)
 have hf_:(Jbm p_f l) = (i:Int):=by
  exact JeH hx1 (by simpa using h2) hn
 · (try rw [hf_]);(simp only [JM];done)
 try simp only [BB] at h2
 refine Jn (JK (Ja (Jb ?_)))
 refine Jd [0,0] [(0,Sl (At b1 o1) l.length c_l),(1,.func (.func k_f) #[] caps_f),(7,I (l.length:Int)),(8,I (IntKind.i64.wrap ((i:Int) + 1)))] ?_
 have e1:IntKind.i64.wrap ((i:Int) + 1) = (i:Int) + 1:=IntWalk.i64_in _ (by omega)
 refine J1 (fr':=[(0,Sl (At b1 o1) l.length c_l),(1,.func (.func k_f) #[] caps_f),(7,I (l.length:Int)),(8,I ((i:Int) + 1))]) (L':=[]) (by simp only [J3,JaV,e1];first | done | rfl) (by rfl) ?_
 clear e1
 refine Jc ?_
 exact Jba (i + 1) ⟨(by omega),(Jfh hx1 (by simpa using h2) hn)⟩ (by (try dsimp only);omega)
 try simp only [BB] at h1
 refine JaT (J2 (Jaf (JW (Ja ?_))))
 refine Jg [0] [(4,I (-1))] (Jk ?_)
 refine Jl [0] [I (-1)] (Jw (Jt.le_refl _) ?_)
 have hf_:(Jbm p_f l) = (-1):=by
  exact Jeq (by rw [List.take_of_length_le (by omega)] at hn;exact hn)
 · (try rw [hf_]);(simp only [JM];done)
theorem Jk9 (G:Jt) (a_l:Option Addr) (c_l:Nat) (l:List JV) (h_l:RS Jaj G a_l c_l l) (k_f:FuncId) (caps_f:Array Value) (p_f:JV → Bool) (hk_f:Jgc Tryz.prog k_f) (h_f:∀ (vs0:List Value) (x0:JV) (hx0:Jaj.R G vs0 x0),Con Tryz.prog k_f (#[.agg vs0.toArray] ++ caps_f) G [] (fun u _ _=>u = Bo (p_f x0))) :Con Tryz.prog 39 #[Sl a_l l.length c_l,.func (.func k_f) #[] caps_f] G [] (fun u G' L'=>u = Bo (l.any p_f)):=by
 refine JL Tryz.func39 9 [(0,Sl a_l l.length c_l),(1,.func (.func k_f) #[] caps_f)] rfl (fun w0 G0=>?_)
 refine Jg [0] [(0,Sl a_l l.length c_l),(1,.func (.func k_f) #[] caps_f)] (Je (Jb ?_))
 refine Jd [0,0] [(5,Sl a_l l.length c_l),(6,.func (.func k_f) #[] caps_f)] ?_
 refine Ji 7 (I (Jbm p_f l)) (JjT G a_l c_l l h_l k_f caps_f p_f hk_f h_f) ?_
 refine Jd [0,0] [(4,Bo (decide (Jbm p_f l ≥ 0)))] (Jc (Ja (Jk ?_)))
 refine Jl [0] [Bo (decide (Jbm p_f l ≥ 0))] (Jw (Jt.le_refl _) ?_)
 have hf_:(l.any p_f) = (decide (Jbm p_f l ≥ 0)):=by
  rw [Jfi]
 · (try rw [hf_]);(simp only [JM];done)
theorem Jkz (G:Jt) (a_l:Option Addr) (c_l:Nat) (l:List (List UInt8)) (h_l:RS ES G a_l c_l l) :Con Tryz.prog 144 #[Sl a_l l.length c_l] G [] (fun u G' L'=>∃ (a1:Option Addr) (c2:Nat) (r3:List Seg),u = Sl a1 l.length c2 ∧ (J8 ES G' a1 c2 l r3) ∧ L' = [r3]):=by
 refine JL Tryz.func144 8 [(0,Sl a_l l.length c_l)] rfl (fun w0 G0=>?_)
 refine Jg [0] [(0,Sl a_l l.length c_l)] (Je (Je (Jb ?_)))
 refine Jd [0] [(0,Sl a_l l.length c_l),(3,Sl a_l l.length c_l)] ?_
 refine JfF 4 (Bo ((a_l).isNone)) (by intro w;cases a_l <;> kernel_rfl) ?_
 refine Jc (Ja ?_)
 refine Jo ((a_l).isNone) (fun h1=>?_) (fun h1=>?_)
 try simp only [BB] at h1
 refine Jg [0] [(2,Sl none 0 0)] (Jk (Jh ?_))
 refine Jc0 ?_
 refine Jj 0 ?_
 have hf1:l = []:=by
  exact RS.isNil h_l h1
 refine Jl [0] [Sl none 0 0] (JY [[]] (.cons_cons _ .slnil) (Jt.le_refl _) ?_)
 rw [hf1]
 try dsimp only
 exact ⟨none,0,([]),rfl,(J8.none ES _),rfl⟩
 try simp only [BB] at h1
 refine Jn (Ja (Je (Jb ?_)))
 refine JaB 5 0 #[] 9 (fun b1=>?_)
 refine Jd [0] [(5,Sl (At b1 0) 0 0),(6,Sl a_l l.length c_l)] ?_
 refine Je8 7 9 0 (J8.of_lit (E:=ES) (b:=b1) [] [] trivial (by simp)) h_l (fun a1 c1 r1 hr1=>?_)
 refine Jd [0] [(2,Sl a1 l.length c1)] (Jc (Ja (Jk ?_)))
 refine Jj 0 ?_
 have hf2:l = l:=by
  rfl
 refine Jl [0] [Sl a1 l.length c1] (JY [r1] (.cons_cons _ .slnil) (Jt.le_refl _) ?_)
 rw [hf2]
 try dsimp only
 exact ⟨a1,c1,r1,rfl,hr1,rfl⟩
theorem JpZ (G:Jt) (a_l:Option Addr) (c_l:Nat) (l:List (List UInt8)) (h_l:RS ES G a_l c_l l) (k_f:FuncId) (caps_f:Array Value) (p_f:(List UInt8) → Bool) (hk_f:Jgc Tryz.prog k_f) (h_f:∀ (x0:(List UInt8)) (hx0:(x0).length ≤ 140737488351232),Con Tryz.prog k_f (#[Sr x0] ++ caps_f) G [] (fun u _ _=>u = Bo (p_f x0))) :Con Tryz.prog 84 #[Sl a_l l.length c_l,.func (.func k_f) #[] caps_f] G [] (fun u G' L'=>u = I (Jbm p_f l)):=by
 refine JL Tryz.func84 19 [(0,Sl a_l l.length c_l),(1,.func (.func k_f) #[] caps_f)] rfl (fun w0 G0=>?_)
 refine Jg [0] [(0,Sl a_l l.length c_l),(1,.func (.func k_f) #[] caps_f)] (Je ?_)
 refine Jg [0,0,0] [(0,Sl a_l l.length c_l),(1,.func (.func k_f) #[] caps_f),(7,I (l.length:Int)),(8,I 0)] (Jy ?_)
 have hlm_h_l:l.length ≤ 9223372036854775807:=Nat.le_trans (h_l).le (h_l).max
 refine Ja8 (σ:=Nat) (fun q_=>(q_ ≤ l.length) ∧ ((l.take q_).any p_f = false)) (fun q_=>[(0,Sl a_l l.length c_l),(1,.func (.func k_f) #[] caps_f),(7,I (l.length:Int)),(8,I (q_:Int))]) (fun q_=>G) (fun q_=>[]) (fun q_=>l.length - q_) 0 ⟨(by (try dsimp only);exact Nat.zero_le _),(by (try dsimp only);simp)⟩ (fun q_ hs=>?_)
 revert hs;revert q_;intro i hs
 obtain ⟨hi,hn⟩:=hs
 refine JaJ (fr':=[(0,Sl a_l l.length c_l),(1,.func (.func k_f) #[] caps_f),(7,I (l.length:Int)),(8,I (i:Int))]) (L':=[]) rfl rfl ?_
 refine Jg [0] [(0,Sl a_l l.length c_l),(1,.func (.func k_f) #[] caps_f),(7,I (l.length:Int)),(8,I (i:Int)),(9,Bo (decide ((i:Int) < (l.length:Int))))] (Je ?_)
 refine Jo (decide ((i:Int) < (l.length:Int))) (fun h1=>?_) (fun h1=>?_)
 try simp only [BB] at h1
 refine Jn (Ja (Je (Jy ?_)))
 refine Jg [0,0] [(0,Sl a_l l.length c_l),(1,.func (.func k_f) #[] caps_f),(5,I (i:Int)),(7,I (l.length:Int)),(8,I (i:Int))] (Je (Jb ?_))
 refine Jd [0,0,0] [(0,Sl a_l l.length c_l),(1,.func (.func k_f) #[] caps_f),(5,I (i:Int)),(7,I (l.length:Int)),(8,I (i:Int)),(11,.func (.func k_f) #[] caps_f),(12,Sl a_l l.length c_l),(13,I (i:Int))] ?_
 obtain ⟨b1,o1,rfl⟩:=RS.addr h_l (k:=i) (by omega)
 obtain ⟨x1,hx1⟩:=Jb1 (l:=l) (k:=i) (by omega)
 obtain ⟨_,⟨rfl,w1⟩,hc1⟩:=RS.get h_l hx1
 refine Jac (b:=b1) (off:=o1) (len:=l.length) (cap:=c_l) (ik:=.i64) 14 9 1 i (by omega) ?_
 refine J6 15 9 (cs:=[Sr x1]) 0 (Sr x1) hc1 ?_
 refine Jdm (k:=k_f) (caps:=caps_f) (args:=#[Sr x1]) 16 (Bo (p_f x1)) hk_f (h_f x1 w1) ?_
 refine Jc (Ja ?_)
 refine Jo (p_f x1) (fun h2=>?_) (fun h2=>?_)
 try simp only [BB] at h2
 refine Jg [0,0] [(4,I (i:Int))] (Jk (Js (Jh (Jbc (Js (Jh ?_))))))
 refine Jl [0] [I (i:Int)] (Jw (Jt.le_refl _) ?_)
 have hf_:(Jbm p_f l) = (i:Int):=by
  exact JeH hx1 (by simpa using h2) hn
 · (try rw [hf_]);(simp only [JM];done)
 try simp only [BB] at h2
 refine Jn (JK (Ja (Jb ?_)))
 refine Jd [0,0] [(0,Sl (At b1 o1) l.length c_l),(1,.func (.func k_f) #[] caps_f),(7,I (l.length:Int)),(8,I (IntKind.i64.wrap ((i:Int) + 1)))] ?_
 have e1:IntKind.i64.wrap ((i:Int) + 1) = (i:Int) + 1:=IntWalk.i64_in _ (by omega)
 refine J1 (fr':=[(0,Sl (At b1 o1) l.length c_l),(1,.func (.func k_f) #[] caps_f),(7,I (l.length:Int)),(8,I ((i:Int) + 1))]) (L':=[]) (by simp only [e1]) (by rfl) ?_
 clear e1
 refine Jc ?_
 exact Jba (i + 1) ⟨(by omega),(Jfh hx1 (by simpa using h2) hn)⟩ (by (try dsimp only);omega)
 try simp only [BB] at h1
 refine JaT (J2 (Jaf (JW (Ja ?_))))
 refine Jg [0] [(4,I (-1))] (Jk ?_)
 refine Jl [0] [I (-1)] (Jw (Jt.le_refl _) ?_)
 have hf_:(Jbm p_f l) = (-1):=by
  exact Jeq (by rw [List.take_of_length_le (by omega)] at hn;exact hn)
 · (try rw [hf_]);(simp only [JM];done)
theorem Jre (G:Jt) (a_l:Option Addr) (c_l:Nat) (l:List (List UInt8)) (h_l:RS ES G a_l c_l l) (k_f:FuncId) (caps_f:Array Value) (p_f:(List UInt8) → Bool) (hk_f:Jgc Tryz.prog k_f) (h_f:∀ (x0:(List UInt8)) (hx0:(x0).length ≤ 140737488351232),Con Tryz.prog k_f (#[Sr x0] ++ caps_f) G [] (fun u _ _=>u = Bo (p_f x0))) :Con Tryz.prog 43 #[Sl a_l l.length c_l,.func (.func k_f) #[] caps_f] G [] (fun u G' L'=>u = Bo (l.any p_f)):=by
 refine JL Tryz.func43 9 [(0,Sl a_l l.length c_l),(1,.func (.func k_f) #[] caps_f)] rfl (fun w0 G0=>?_)
 refine Jg [0] [(0,Sl a_l l.length c_l),(1,.func (.func k_f) #[] caps_f)] (Je (Jb ?_))
 refine Jd [0,0] [(5,Sl a_l l.length c_l),(6,.func (.func k_f) #[] caps_f)] ?_
 refine Ji 7 (I (Jbm p_f l)) (JpZ G a_l c_l l h_l k_f caps_f p_f hk_f h_f) ?_
 refine Jd [0,0] [(4,Bo (decide (Jbm p_f l ≥ 0)))] (Jc (Ja (Jk ?_)))
 refine Jl [0] [Bo (decide (Jbm p_f l ≥ 0))] (Jw (Jt.le_refl _) ?_)
 have hf_:(l.any p_f) = (decide (Jbm p_f l ≥ 0)):=by
  rw [Jfi]
 · (try rw [hf_]);(simp only [JM];done)
theorem JnX (G:Jt) (a_l:Option Addr) (c_l:Nat) (l:List (List UInt8)) (h_l:RS ES G a_l c_l l) (v:List UInt8) :Con Tryz.prog 105 #[Sl a_l l.length c_l,Sr v] G [] (fun u G' L'=>u = I (Jbm (fun x=>decide (v = x)) l)):=by
 refine JL Tryz.func105 19 [(0,Sl a_l l.length c_l),(1,Sr v)] rfl (fun w0 G0=>?_)
 refine Jg [0] [(0,Sl a_l l.length c_l),(1,Sr v)] (Je ?_)
 refine Jg [0,0,0] [(0,Sl a_l l.length c_l),(1,Sr v),(7,I (l.length:Int)),(8,I 0)] (Jy ?_)
 have hlm_h_l:l.length ≤ 9223372036854775807:=Nat.le_trans (h_l).le (h_l).max
 refine Ja8 (σ:=Nat) (fun q_=>(q_ ≤ l.length) ∧ ((l.take q_).any (fun x=>decide (v = x)) = false)) (fun q_=>[(0,Sl a_l l.length c_l),(1,Sr v),(7,I (l.length:Int)),(8,I (q_:Int))]) (fun q_=>G) (fun q_=>[]) (fun q_=>l.length - q_) 0 ⟨(by (try dsimp only);exact Nat.zero_le _),(by (try dsimp only);simp)⟩ (fun q_ hs=>?_)
 revert hs;revert q_;intro i hs
 obtain ⟨hi,hn⟩:=hs
 refine JaJ (fr':=[(0,Sl a_l l.length c_l),(1,Sr v),(7,I (l.length:Int)),(8,I (i:Int))]) (L':=[]) rfl rfl ?_
 refine Jg [0] [(0,Sl a_l l.length c_l),(1,Sr v),(7,I (l.length:Int)),(8,I (i:Int)),(9,Bo (decide ((i:Int) < (l.length:Int))))] (Je ?_)
 refine Jo (decide ((i:Int) < (l.length:Int))) (fun h1=>?_) (fun h1=>?_)
 try simp only [BB] at h1
 refine Jn (Ja (Je (Jy ?_)))
 refine Jg [0,0] [(0,Sl a_l l.length c_l),(1,Sr v),(5,I (i:Int)),(7,I (l.length:Int)),(8,I (i:Int))] (Je (Jb ?_))
 refine Jd [0,0,0] [(0,Sl a_l l.length c_l),(1,Sr v),(5,I (i:Int)),(7,I (l.length:Int)),(8,I (i:Int)),(11,Sr v),(12,Sl a_l l.length c_l),(13,I (i:Int))] ?_
 obtain ⟨b1,o1,rfl⟩:=RS.addr h_l (k:=i) (by omega)
 obtain ⟨x1,hx1⟩:=Jb1 (l:=l) (k:=i) (by omega)
 obtain ⟨_,⟨rfl,_⟩,hc1⟩:=RS.get h_l hx1
 refine Jac (b:=b1) (off:=o1) (len:=l.length) (cap:=c_l) (ik:=.i64) 14 9 1 i (by omega) ?_
 refine J6 15 9 (cs:=[Sr x1]) 0 (Sr x1) hc1 ?_
 refine Jd [0] [(0,Sl (At b1 o1) l.length c_l),(1,Sr v),(5,I (i:Int)),(7,I (l.length:Int)),(8,I (i:Int)),(16,Bo ((B v).toList == (B x1).toList))] ?_
 refine J1 (fr':=[(0,Sl (At b1 o1) l.length c_l),(1,Sr v),(5,I (i:Int)),(7,I (l.length:Int)),(8,I (i:Int)),(16,Bo (v == x1))]) (L':=[]) (by simp only [JcB]) (by rfl) ?_
 refine Jc (Ja ?_)
 refine Jo (v == x1) (fun h2=>?_) (fun h2=>?_)
 try simp only [BB] at h2
 refine Jg [0,0] [(4,I (i:Int))] (Jk (Js (Jh (Jbc (Js (Jh ?_))))))
 refine Jl [0] [I (i:Int)] (Jw (Jt.le_refl _) ?_)
 have hf_:(Jbm (fun x=>decide (v = x)) l) = (i:Int):=by
  exact JeH hx1 (decide_eq_true (by simpa using h2)) hn
 · (try rw [hf_]);(simp only [JM];done)
 try simp only [BB] at h2
 refine Jn (JK (Ja (Jb ?_)))
 refine Jd [0,0] [(0,Sl (At b1 o1) l.length c_l),(1,Sr v),(7,I (l.length:Int)),(8,I (IntKind.i64.wrap ((i:Int) + 1)))] ?_
 have e1:IntKind.i64.wrap ((i:Int) + 1) = (i:Int) + 1:=IntWalk.i64_in _ (by omega)
 refine J1 (fr':=[(0,Sl (At b1 o1) l.length c_l),(1,Sr v),(7,I (l.length:Int)),(8,I ((i:Int) + 1))]) (L':=[]) (by simp only [e1]) (by rfl) ?_
 clear e1
 refine Jc ?_
 exact Jba (i + 1) ⟨(by omega),(Jfh hx1 (decide_eq_false (by simpa using h2)) hn)⟩ (by (try dsimp only);omega)
 try simp only [BB] at h1
 refine JaT (J2 (Jaf (JW (Ja ?_))))
 refine Jg [0] [(4,I (-1))] (Jk ?_)
 refine Jl [0] [I (-1)] (Jw (Jt.le_refl _) ?_)
 have hf_:(Jbm (fun x=>decide (v = x)) l) = (-1):=by
  exact Jeq (by rw [List.take_of_length_le (by omega)] at hn;exact hn)
 · (try rw [hf_]);(simp only [JM];done)
theorem Jrf (G:Jt) (a_l:Option Addr) (c_l:Nat) (l:List (List UInt8)) (h_l:RS ES G a_l c_l l) (v:List UInt8) :Con Tryz.prog 67 #[Sl a_l l.length c_l,Sr v] G [] (fun u G' L'=>u = Bo (l.any (fun x=>decide (v = x)))):=by
 refine JL Tryz.func67 9 [(0,Sl a_l l.length c_l),(1,Sr v)] rfl (fun w0 G0=>?_)
 refine Jg [0] [(0,Sl a_l l.length c_l),(1,Sr v)] (Je (Jb ?_))
 refine Jd [0,0] [(5,Sl a_l l.length c_l),(6,Sr v)] ?_
 refine Ji 7 (I (Jbm (fun x=>decide (v = x)) l)) (JnX G a_l c_l l h_l v) ?_
 refine Jd [0,0] [(4,Bo (decide (Jbm (fun x=>decide (v = x)) l ≥ 0)))] (Jc (Ja (Jk ?_)))
 refine Jl [0] [Bo (decide (Jbm (fun x=>decide (v = x)) l ≥ 0))] (Jw (Jt.le_refl _) ?_)
 have hf_:(l.any (fun x=>decide (v = x))) = (decide (Jbm (fun x=>decide (v = x)) l ≥ 0)):=by
  rw [Jfi]
 · (try rw [hf_]);(simp only [JM];done)
theorem JdW (G:Jt) (a_l:Option Addr) (c_l:Nat) (l:List J0) (h_l:RS Jbh G a_l c_l l) :Con Tryz.prog 59 #[Sl a_l l.length c_l] G [] (fun u G' L'=>∃ (a1:Option Addr) (c2:Nat) (r3:List Seg),u = Sl a1 l.length c2 ∧ (J8 Jbh G' a1 c2 l r3) ∧ L' = [r3]):=by
 refine JL Tryz.func59 8 [(0,Sl a_l l.length c_l)] rfl (fun w0 G0=>?_)
 refine Jg [0] [(0,Sl a_l l.length c_l)] (Je (Je (Jb ?_)))
 refine Jd [0] [(0,Sl a_l l.length c_l),(3,Sl a_l l.length c_l)] ?_
 refine JfF 4 (Bo ((a_l).isNone)) (by intro w;cases a_l <;> kernel_rfl) ?_
 refine Jc (Ja ?_)
 refine Jo ((a_l).isNone) (fun h1=>?_) (fun h1=>?_)
 try simp only [BB] at h1
 refine Jg [0] [(2,Sl none 0 0)] (Jk (Jh ?_))
 refine Jc0 ?_
 refine Jj 0 ?_
 have hf1:l = []:=by
  exact RS.isNil h_l h1
 refine Jl [0] [Sl none 0 0] (JY [[]] (.cons_cons _ .slnil) (Jt.le_refl _) ?_)
 rw [hf1]
 try dsimp only
 exact ⟨none,0,([]),rfl,(J8.none Jbh _),rfl⟩
 try simp only [BB] at h1
 refine Jn (Ja (Je (Jb ?_)))
 refine JaB 5 0 #[] 94 (fun b1=>?_)
 refine Jd [0] [(5,Sl (At b1 0) 0 0),(6,Sl a_l l.length c_l)] ?_
 refine Je8 7 94 0 (J8.of_lit (E:=Jbh) (b:=b1) [] [] trivial (by simp)) h_l (fun a1 c1 r1 hr1=>?_)
 refine Jd [0] [(2,Sl a1 l.length c1)] (Jc (Ja (Jk ?_)))
 refine Jj 0 ?_
 have hf2:l = l:=by
  rfl
 refine Jl [0] [Sl a1 l.length c1] (JY [r1] (.cons_cons _ .slnil) (Jt.le_refl _) ?_)
 rw [hf2]
 try dsimp only
 exact ⟨a1,c1,r1,rfl,hr1,rfl⟩
theorem Jjm (G:Jt) (a_l:Option Addr) (c_l:Nat) (l:List J0) (h_l:RS Jbh G a_l c_l l) (k_f:FuncId) (caps_f:Array Value) (p_f:J0 → Bool) (hk_f:Jgc Tryz.prog k_f) (h_f:∀ (vs0:List Value) (x0:J0) (hx0:Jbh.R G vs0 x0),Con Tryz.prog k_f (#[.agg vs0.toArray] ++ caps_f) G [] (fun u _ _=>u = Bo (p_f x0))) :Con Tryz.prog 194 #[Sl a_l l.length c_l,.func (.func k_f) #[] caps_f] G [] (fun u G' L'=>u = I (Jbm p_f l)):=by
 refine JL Tryz.func194 19 [(0,Sl a_l l.length c_l),(1,.func (.func k_f) #[] caps_f)] rfl (fun w0 G0=>?_)
 refine Jg [0] [(0,Sl a_l l.length c_l),(1,.func (.func k_f) #[] caps_f)] (Je ?_)
 refine Jg [0,0,0] [(0,Sl a_l l.length c_l),(1,.func (.func k_f) #[] caps_f),(7,I (l.length:Int)),(8,I 0)] (Jy ?_)
 have hlm_h_l:l.length ≤ 9223372036854775807:=Nat.le_trans (h_l).le (h_l).max
 refine Ja8 (σ:=Nat) (fun q_=>(q_ ≤ l.length) ∧ ((l.take q_).any p_f = false)) (fun q_=>[(0,Sl a_l l.length c_l),(1,.func (.func k_f) #[] caps_f),(7,I (l.length:Int)),(8,I (q_:Int))]) (fun q_=>G) (fun q_=>[]) (fun q_=>l.length - q_) 0 ⟨(by (try dsimp only);exact Nat.zero_le _),(by (try dsimp only);simp)⟩ (fun q_ hs=>?_)
 revert hs;revert q_;intro i hs
 obtain ⟨hi,hn⟩:=hs
 refine JaJ (fr':=[(0,Sl a_l l.length c_l),(1,.func (.func k_f) #[] caps_f),(7,I (l.length:Int)),(8,I (i:Int))]) (L':=[]) rfl rfl ?_
 refine Jg [0] [(0,Sl a_l l.length c_l),(1,.func (.func k_f) #[] caps_f),(7,I (l.length:Int)),(8,I (i:Int)),(9,Bo (decide ((i:Int) < (l.length:Int))))] (Je ?_)
 refine Jo (decide ((i:Int) < (l.length:Int))) (fun h1=>?_) (fun h1=>?_)
 try simp only [BB] at h1
 refine Jn (Ja (Je (Jy ?_)))
 refine Jg [0,0] [(0,Sl a_l l.length c_l),(1,.func (.func k_f) #[] caps_f),(5,I (i:Int)),(7,I (l.length:Int)),(8,I (i:Int))] (Je (Jb ?_))
 refine Jd [0,0,0] [(0,Sl a_l l.length c_l),(1,.func (.func k_f) #[] caps_f),(5,I (i:Int)),(7,I (l.length:Int)),(8,I (i:Int)),(11,.func (.func k_f) #[] caps_f),(12,Sl a_l l.length c_l),(13,I (i:Int))] ?_
 obtain ⟨b1,o1,rfl⟩:=RS.addr h_l (k:=i) (by omega)
 obtain ⟨x1,hx1⟩:=Jb1 (l:=l) (k:=i) (by omega)
 obtain ⟨_,⟨rfl,w1,w2⟩,hc1⟩:=RS.get h_l hx1
 refine Jac (b:=b1) (off:=o1) (len:=l.length) (cap:=c_l) (ik:=.i64) 14 94 2 i (by omega) ?_
 refine J6 15 94 (cs:=[Sr x1.name,Sr x1.value]) 0 (.agg #[Sr x1.name,Sr x1.value]) hc1 ?_
 refine Jdm (k:=k_f) (caps:=caps_f) (args:=#[.agg #[Sr x1.name,Sr x1.value]]) 16 (Bo (p_f x1)) hk_f (h_f [Sr x1.name,Sr x1.value] x1 (⟨rfl,w1,w2⟩)) ?_
 refine Jc (Ja ?_)
 refine Jo (p_f x1) (fun h2=>?_) (fun h2=>?_)
 try simp only [BB] at h2
 refine Jg [0,0] [(4,I (i:Int))] (Jk (Js (Jh (Jbc (Js (Jh ?_))))))
 refine Jl [0] [I (i:Int)] (Jw (Jt.le_refl _) ?_)
 have hf_:(Jbm p_f l) = (i:Int):=by
  exact JeH hx1 (by simpa using h2) hn
 · (try rw [hf_]);(simp only [JM];done)
 try simp only [BB] at h2
 refine Jn (JK (Ja (Jb ?_)))
 refine Jd [0,0] [(0,Sl (At b1 o1) l.length c_l),(1,.func (.func k_f) #[] caps_f),(7,I (l.length:Int)),(8,I (IntKind.i64.wrap ((i:Int) + 1)))] ?_
 have e1:IntKind.i64.wrap ((i:Int) + 1) = (i:Int) + 1:=IntWalk.i64_in _ (by omega)
 refine J1 (fr':=[(0,Sl (At b1 o1) l.length c_l),(1,.func (.func k_f) #[] caps_f),(7,I (l.length:Int)),(8,I ((i:Int) + 1))]) (L':=[]) (by simp only [e1]) (by rfl) ?_
 clear e1
 refine Jc ?_
 exact Jba (i + 1) ⟨(by omega),(Jfh hx1 (by simpa using h2) hn)⟩ (by (try dsimp only);omega)
 try simp only [BB] at h1
 refine JaT (J2 (Jaf (JW (Ja ?_))))
 refine Jg [0] [(4,I (-1))] (Jk ?_)
 refine Jl [0] [I (-1)] (Jw (Jt.le_refl _) ?_)
 have hf_:(Jbm p_f l) = (-1):=by
  exact Jeq (by rw [List.take_of_length_le (by omega)] at hn;exact hn)
 · (try rw [hf_]);(simp only [JM];done)
theorem JoK (G:Jt) (a_l:Option Addr) (c_l:Nat) (l:List J0) (h_l:RS Jbh G a_l c_l l) (k_f:FuncId) (caps_f:Array Value) (p_f:J0 → Bool) (hk_f:Jgc Tryz.prog k_f) (h_f:∀ (vs0:List Value) (x0:J0) (hx0:Jbh.R G vs0 x0),Con Tryz.prog k_f (#[.agg vs0.toArray] ++ caps_f) G [] (fun u _ _=>u = Bo (p_f x0))) :Con Tryz.prog 206 #[Sl a_l l.length c_l,.func (.func k_f) #[] caps_f] G [] (fun u G' L'=>u = Bo (l.any p_f)):=by
 refine JL Tryz.func206 9 [(0,Sl a_l l.length c_l),(1,.func (.func k_f) #[] caps_f)] rfl (fun w0 G0=>?_)
 refine Jg [0] [(0,Sl a_l l.length c_l),(1,.func (.func k_f) #[] caps_f)] (Je (Jb ?_))
 refine Jd [0,0] [(5,Sl a_l l.length c_l),(6,.func (.func k_f) #[] caps_f)] ?_
 refine Ji 7 (I (Jbm p_f l)) (Jjm G a_l c_l l h_l k_f caps_f p_f hk_f h_f) ?_
 refine Jd [0,0] [(4,Bo (decide (Jbm p_f l ≥ 0)))] (Jc (Ja (Jk ?_)))
 refine Jl [0] [Bo (decide (Jbm p_f l ≥ 0))] (Jw (Jt.le_refl _) ?_)
 have hf_:(l.any p_f) = (decide (Jbm p_f l ≥ 0)):=by
  rw [Jfi]
 · (try rw [hf_]);(simp only [JM];done)
theorem JoL (G:Jt) (a_l:Option Addr) (c_l:Nat) (l:List Int) (h_l:RS EI G a_l c_l l) :Con Tryz.prog 72 #[Sl a_l l.length c_l] G [] (fun u G' L'=>∃ (a1:Option Addr) (c2:Nat) (r3:List Seg),u = Sl a1 l.length c2 ∧ (J8 EI G' a1 c2 l r3) ∧ L' = [r3]):=by
 refine JL Tryz.func72 8 [(0,Sl a_l l.length c_l)] rfl (fun w0 G0=>?_)
 refine Jg [0] [(0,Sl a_l l.length c_l)] (Je (Je (Jb ?_)))
 refine Jd [0] [(0,Sl a_l l.length c_l),(3,Sl a_l l.length c_l)] ?_
 refine JfF 4 (Bo ((a_l).isNone)) (by intro w;cases a_l <;> kernel_rfl) ?_
 refine Jc (Ja ?_)
 refine Jo ((a_l).isNone) (fun h1=>?_) (fun h1=>?_)
 try simp only [BB] at h1
 refine Jg [0] [(2,Sl none 0 0)] (Jk (Jh ?_))
 refine Jc0 ?_
 refine Jj 0 ?_
 have hf1:l = []:=by
  exact RS.isNil h_l h1
 refine Jl [0] [Sl none 0 0] (JY [[]] (.cons_cons _ .slnil) (Jt.le_refl _) ?_)
 rw [hf1]
 try dsimp only
 exact ⟨none,0,([]),rfl,(J8.none EI _),rfl⟩
 try simp only [BB] at h1
 refine Jn (Ja (Je (Jb ?_)))
 refine JaB 5 0 #[] 3 (fun b1=>?_)
 refine Jd [0] [(5,Sl (At b1 0) 0 0),(6,Sl a_l l.length c_l)] ?_
 refine Je8 7 3 0 (J8.of_lit (E:=EI) (b:=b1) [] [] trivial (by simp)) h_l (fun a1 c1 r1 hr1=>?_)
 refine Jd [0] [(2,Sl a1 l.length c1)] (Jc (Ja (Jk ?_)))
 refine Jj 0 ?_
 have hf2:l = l:=by
  rfl
 refine Jl [0] [Sl a1 l.length c1] (JY [r1] (.cons_cons _ .slnil) (Jt.le_refl _) ?_)
 rw [hf2]
 try dsimp only
 exact ⟨a1,c1,r1,rfl,hr1,rfl⟩
theorem Jp0 (G:Jt) (a_l:Option Addr) (c_l:Nat) (l:List Int) (h_l:RS EI G a_l c_l l) (k_f:FuncId) (caps_f:Array Value) (p_f:Int → Bool) (hk_f:Jgc Tryz.prog k_f) (h_f:∀ (x0:Int) (hx0:rI x0),Con Tryz.prog k_f (#[I x0] ++ caps_f) G [] (fun u _ _=>u = Bo (p_f x0))) :Con Tryz.prog 148 #[Sl a_l l.length c_l,.func (.func k_f) #[] caps_f] G [] (fun u G' L'=>u = I (Jbm p_f l)):=by
 refine JL Tryz.func148 19 [(0,Sl a_l l.length c_l),(1,.func (.func k_f) #[] caps_f)] rfl (fun w0 G0=>?_)
 refine Jg [0] [(0,Sl a_l l.length c_l),(1,.func (.func k_f) #[] caps_f)] (Je ?_)
 refine Jg [0,0,0] [(0,Sl a_l l.length c_l),(1,.func (.func k_f) #[] caps_f),(7,I (l.length:Int)),(8,I 0)] (Jy ?_)
 have hlm_h_l:l.length ≤ 9223372036854775807:=Nat.le_trans (h_l).le (h_l).max
 refine Ja8 (σ:=Nat) (fun q_=>(q_ ≤ l.length) ∧ ((l.take q_).any p_f = false)) (fun q_=>[(0,Sl a_l l.length c_l),(1,.func (.func k_f) #[] caps_f),(7,I (l.length:Int)),(8,I (q_:Int))]) (fun q_=>G) (fun q_=>[]) (fun q_=>l.length - q_) 0 ⟨(by (try dsimp only);exact Nat.zero_le _),(by (try dsimp only);simp)⟩ (fun q_ hs=>?_)
 revert hs;revert q_;intro i hs
 obtain ⟨hi,hn⟩:=hs
 refine JaJ (fr':=[(0,Sl a_l l.length c_l),(1,.func (.func k_f) #[] caps_f),(7,I (l.length:Int)),(8,I (i:Int))]) (L':=[]) rfl rfl ?_
 refine Jg [0] [(0,Sl a_l l.length c_l),(1,.func (.func k_f) #[] caps_f),(7,I (l.length:Int)),(8,I (i:Int)),(9,Bo (decide ((i:Int) < (l.length:Int))))] (Je ?_)
 refine Jo (decide ((i:Int) < (l.length:Int))) (fun h1=>?_) (fun h1=>?_)
 try simp only [BB] at h1
 refine Jn (Ja (Je (Jy ?_)))
 refine Jg [0,0] [(0,Sl a_l l.length c_l),(1,.func (.func k_f) #[] caps_f),(5,I (i:Int)),(7,I (l.length:Int)),(8,I (i:Int))] (Je (Jb ?_))
 refine Jd [0,0,0] [(0,Sl a_l l.length c_l),(1,.func (.func k_f) #[] caps_f),(5,I (i:Int)),(7,I (l.length:Int)),(8,I (i:Int)),(11,.func (.func k_f) #[] caps_f),(12,Sl a_l l.length c_l),(13,I (i:Int))] ?_
 obtain ⟨b1,o1,rfl⟩:=RS.addr h_l (k:=i) (by omega)
 obtain ⟨x1,hx1⟩:=Jb1 (l:=l) (k:=i) (by omega)
 obtain ⟨_,⟨rfl,w1⟩,hc1⟩:=RS.get h_l hx1
 refine Jac (b:=b1) (off:=o1) (len:=l.length) (cap:=c_l) (ik:=.i64) 14 3 1 i (by omega) ?_
 refine J6 15 3 (cs:=[I x1]) 0 (I x1) hc1 ?_
 refine Jdm (k:=k_f) (caps:=caps_f) (args:=#[I x1]) 16 (Bo (p_f x1)) hk_f (h_f x1 w1) ?_
 refine Jc (Ja ?_)
 refine Jo (p_f x1) (fun h2=>?_) (fun h2=>?_)
 try simp only [BB] at h2
 refine Jg [0,0] [(4,I (i:Int))] (Jk (Js (Jh (Jbc (Js (Jh ?_))))))
 refine Jl [0] [I (i:Int)] (Jw (Jt.le_refl _) ?_)
 have hf_:(Jbm p_f l) = (i:Int):=by
  exact JeH hx1 (by simpa using h2) hn
 · (try rw [hf_]);(simp only [JM];done)
 try simp only [BB] at h2
 refine Jn (JK (Ja (Jb ?_)))
 refine Jd [0,0] [(0,Sl (At b1 o1) l.length c_l),(1,.func (.func k_f) #[] caps_f),(7,I (l.length:Int)),(8,I (IntKind.i64.wrap ((i:Int) + 1)))] ?_
 have e1:IntKind.i64.wrap ((i:Int) + 1) = (i:Int) + 1:=IntWalk.i64_in _ (by omega)
 refine J1 (fr':=[(0,Sl (At b1 o1) l.length c_l),(1,.func (.func k_f) #[] caps_f),(7,I (l.length:Int)),(8,I ((i:Int) + 1))]) (L':=[]) (by simp only [e1]) (by rfl) ?_
 clear e1
 refine Jc ?_
 exact Jba (i + 1) ⟨(by omega),(Jfh hx1 (by simpa using h2) hn)⟩ (by (try dsimp only);omega)
 try simp only [BB] at h1
 refine JaT (J2 (Jaf (JW (Ja ?_))))
 refine Jg [0] [(4,I (-1))] (Jk ?_)
 refine Jl [0] [I (-1)] (Jw (Jt.le_refl _) ?_)
 have hf_:(Jbm p_f l) = (-1):=by
  exact Jeq (by rw [List.take_of_length_le (by omega)] at hn;exact hn)
 · (try rw [hf_]);(simp only [JM];done)
theorem Jrg (G:Jt) (a_l:Option Addr) (c_l:Nat) (l:List Int) (h_l:RS EI G a_l c_l l) (k_f:FuncId) (caps_f:Array Value) (p_f:Int → Bool) (hk_f:Jgc Tryz.prog k_f) (h_f:∀ (x0:Int) (hx0:rI x0),Con Tryz.prog k_f (#[I x0] ++ caps_f) G [] (fun u _ _=>u = Bo (p_f x0))) :Con Tryz.prog 110 #[Sl a_l l.length c_l,.func (.func k_f) #[] caps_f] G [] (fun u G' L'=>u = Bo (l.any p_f)):=by
 refine JL Tryz.func110 9 [(0,Sl a_l l.length c_l),(1,.func (.func k_f) #[] caps_f)] rfl (fun w0 G0=>?_)
 refine Jg [0] [(0,Sl a_l l.length c_l),(1,.func (.func k_f) #[] caps_f)] (Je (Jb ?_))
 refine Jd [0,0] [(5,Sl a_l l.length c_l),(6,.func (.func k_f) #[] caps_f)] ?_
 refine Ji 7 (I (Jbm p_f l)) (Jp0 G a_l c_l l h_l k_f caps_f p_f hk_f h_f) ?_
 refine Jd [0,0] [(4,Bo (decide (Jbm p_f l ≥ 0)))] (Jc (Ja (Jk ?_)))
 refine Jl [0] [Bo (decide (Jbm p_f l ≥ 0))] (Jw (Jt.le_refl _) ?_)
 have hf_:(l.any p_f) = (decide (Jbm p_f l ≥ 0)):=by
  rw [Jfi]
 · (try rw [hf_]);(simp only [JM];done)
theorem JdX (G:Jt) (a_l:Option Addr) (c_l:Nat) (l:List Jc5) (h_l:RS JbL G a_l c_l l) :Con Tryz.prog 96 #[Sl a_l l.length c_l] G [] (fun u G' L'=>∃ (a1:Option Addr) (c2:Nat) (r3:List Seg),u = Sl a1 l.length c2 ∧ (J8 JbL G' a1 c2 l r3) ∧ L' = [r3]):=by
 refine JL Tryz.func96 8 [(0,Sl a_l l.length c_l)] rfl (fun w0 G0=>?_)
 refine Jg [0] [(0,Sl a_l l.length c_l)] (Je (Je (Jb ?_)))
 refine Jd [0] [(0,Sl a_l l.length c_l),(3,Sl a_l l.length c_l)] ?_
 refine JfF 4 (Bo ((a_l).isNone)) (by intro w;cases a_l <;> kernel_rfl) ?_
 refine Jc (Ja ?_)
 refine Jo ((a_l).isNone) (fun h1=>?_) (fun h1=>?_)
 try simp only [BB] at h1
 refine Jg [0] [(2,Sl none 0 0)] (Jk (Jh ?_))
 refine Jc0 ?_
 refine Jj 0 ?_
 have hf1:l = []:=by
  exact RS.isNil h_l h1
 refine Jl [0] [Sl none 0 0] (JY [[]] (.cons_cons _ .slnil) (Jt.le_refl _) ?_)
 rw [hf1]
 try dsimp only
 exact ⟨none,0,([]),rfl,(J8.none JbL _),rfl⟩
 try simp only [BB] at h1
 refine Jn (Ja (Je (Jb ?_)))
 refine JaB 5 0 #[] 83 (fun b1=>?_)
 refine Jd [0] [(5,Sl (At b1 0) 0 0),(6,Sl a_l l.length c_l)] ?_
 refine Je8 7 83 0 (J8.of_lit (E:=JbL) (b:=b1) [] [] trivial (by simp)) h_l (fun a1 c1 r1 hr1=>?_)
 refine Jd [0] [(2,Sl a1 l.length c1)] (Jc (Ja (Jk ?_)))
 refine Jj 0 ?_
 have hf2:l = l:=by
  rfl
 refine Jl [0] [Sl a1 l.length c1] (JY [r1] (.cons_cons _ .slnil) (Jt.le_refl _) ?_)
 rw [hf2]
 try dsimp only
 exact ⟨a1,c1,r1,rfl,hr1,rfl⟩
theorem Jez (G:Jt) (a_l:Option Addr) (c_l:Nat) (l:List JS) (h_l:RS Jaz G a_l c_l l) :Con Tryz.prog 97 #[Sl a_l l.length c_l] G [] (fun u G' L'=>∃ (a1:Option Addr) (c2:Nat) (r3:List Seg),u = Sl a1 l.length c2 ∧ (J8 Jaz G' a1 c2 l r3) ∧ L' = [r3]):=by
 refine JL Tryz.func97 8 [(0,Sl a_l l.length c_l)] rfl (fun w0 G0=>?_)
 refine Jg [0] [(0,Sl a_l l.length c_l)] (Je (Je (Jb ?_)))
 refine Jd [0] [(0,Sl a_l l.length c_l),(3,Sl a_l l.length c_l)] ?_
 refine JfF 4 (Bo ((a_l).isNone)) (by intro w;cases a_l <;> kernel_rfl) ?_
 refine Jc (Ja ?_)
 refine Jo ((a_l).isNone) (fun h1=>?_) (fun h1=>?_)
 try simp only [BB] at h1
 refine Jg [0] [(2,Sl none 0 0)] (Jk (Jh ?_))
 refine Jc0 ?_
 refine Jj 0 ?_
 have hf1:l = []:=by
  exact RS.isNil h_l h1
 refine Jl [0] [Sl none 0 0] (JY [[]] (.cons_cons _ .slnil) (Jt.le_refl _) ?_)
 rw [hf1]
 try dsimp only
 exact ⟨none,0,([]),rfl,(J8.none Jaz _),rfl⟩
 try simp only [BB] at h1
 refine Jn (Ja (Je (Jb ?_)))
 refine JaB 5 0 #[] 50 (fun b1=>?_)
 refine Jd [0] [(5,Sl (At b1 0) 0 0),(6,Sl a_l l.length c_l)] ?_
 refine Je8 7 50 0 (J8.of_lit (E:=Jaz) (b:=b1) [] [] trivial (by simp)) h_l (fun a1 c1 r1 hr1=>?_)
 refine Jd [0] [(2,Sl a1 l.length c1)] (Jc (Ja (Jk ?_)))
 refine Jj 0 ?_
 have hf2:l = l:=by
  rfl
 refine Jl [0] [Sl a1 l.length c1] (JY [r1] (.cons_cons _ .slnil) (Jt.le_refl _) ?_)
 rw [hf2]
 try dsimp only
 exact ⟨a1,c1,r1,rfl,hr1,rfl⟩
theorem JlX (G:Jt) (a_l:Option Addr) (c_l:Nat) (l:List JS) (h_l:RS Jaz G a_l c_l l) (k_f:FuncId) (caps_f:Array Value) (p_f:JS → Bool) (hk_f:Jgc Tryz.prog k_f) (h_f:∀ (vs0:List Value) (x0:JS) (hx0:Jaz.R G vs0 x0),Con Tryz.prog k_f (#[.agg vs0.toArray] ++ caps_f) G [] (fun u _ _=>u = Bo (p_f x0))) :Con Tryz.prog 215 #[Sl a_l l.length c_l,.func (.func k_f) #[] caps_f] G [] (fun u G' L'=>u = I (Jbm p_f l)):=by
 refine JL Tryz.func215 19 [(0,Sl a_l l.length c_l),(1,.func (.func k_f) #[] caps_f)] rfl (fun w0 G0=>?_)
 refine Jg [0] [(0,Sl a_l l.length c_l),(1,.func (.func k_f) #[] caps_f)] (Je ?_)
 refine Jg [0,0,0] [(0,Sl a_l l.length c_l),(1,.func (.func k_f) #[] caps_f),(7,I (l.length:Int)),(8,I 0)] (Jy ?_)
 have hlm_h_l:l.length ≤ 9223372036854775807:=Nat.le_trans (h_l).le (h_l).max
 refine Ja8 (σ:=Nat) (fun q_=>(q_ ≤ l.length) ∧ ((l.take q_).any p_f = false)) (fun q_=>[(0,Sl a_l l.length c_l),(1,.func (.func k_f) #[] caps_f),(7,I (l.length:Int)),(8,I (q_:Int))]) (fun q_=>G) (fun q_=>[]) (fun q_=>l.length - q_) 0 ⟨(by (try dsimp only);exact Nat.zero_le _),(by (try dsimp only);simp)⟩ (fun q_ hs=>?_)
 revert hs;revert q_;intro i hs
 obtain ⟨hi,hn⟩:=hs
 refine JaJ (fr':=[(0,Sl a_l l.length c_l),(1,.func (.func k_f) #[] caps_f),(7,I (l.length:Int)),(8,I (i:Int))]) (L':=[]) rfl rfl ?_
 refine Jg [0] [(0,Sl a_l l.length c_l),(1,.func (.func k_f) #[] caps_f),(7,I (l.length:Int)),(8,I (i:Int)),(9,Bo (decide ((i:Int) < (l.length:Int))))] (Je ?_)
 refine Jo (decide ((i:Int) < (l.length:Int))) (fun h1=>?_) (fun h1=>?_)
 try simp only [BB] at h1
 refine Jn (Ja (Je (Jy ?_)))
 refine Jg [0,0] [(0,Sl a_l l.length c_l),(1,.func (.func k_f) #[] caps_f),(5,I (i:Int)),(7,I (l.length:Int)),(8,I (i:Int))] (Je (Jb ?_))
 refine Jd [0,0,0] [(0,Sl a_l l.length c_l),(1,.func (.func k_f) #[] caps_f),(5,I (i:Int)),(7,I (l.length:Int)),(8,I (i:Int)),(11,.func (.func k_f) #[] caps_f),(12,Sl a_l l.length c_l),(13,I (i:Int))] ?_
 obtain ⟨b1,o1,rfl⟩:=RS.addr h_l (k:=i) (by omega)
 obtain ⟨x1,hx1⟩:=Jb1 (l:=l) (k:=i) (by omega)
 obtain ⟨_,⟨rfl,w1,w2,w3,w4⟩,hc1⟩:=RS.get h_l hx1
 refine Jac (b:=b1) (off:=o1) (len:=l.length) (cap:=c_l) (ik:=.i64) 14 50 4 i (by omega) ?_
 refine J6 15 50 (cs:=[I x1.epoch,U x1.root,U x1.prev,I x1.at_]) 0 (.agg #[I x1.epoch,U x1.root,U x1.prev,I x1.at_]) hc1 ?_
 refine Jdm (k:=k_f) (caps:=caps_f) (args:=#[.agg #[I x1.epoch,U x1.root,U x1.prev,I x1.at_]]) 16 (Bo (p_f x1)) hk_f (h_f [I x1.epoch,U x1.root,U x1.prev,I x1.at_] x1 (⟨rfl,w1,w2,w3,w4⟩)) ?_
 refine Jc (Ja ?_)
 refine Jo (p_f x1) (fun h2=>?_) (fun h2=>?_)
 try simp only [BB] at h2
 refine Jg [0,0] [(4,I (i:Int))] (Jk (Js (Jh (Jbc (Js (Jh ?_))))))
 refine Jl [0] [I (i:Int)] (Jw (Jt.le_refl _) ?_)
 have hf_:(Jbm p_f l) = (i:Int):=by
  exact JeH hx1 (by simpa using h2) hn
 · (try rw [hf_]);(simp only [JM];done)
 try simp only [BB] at h2
 refine Jn (JK (Ja (Jb ?_)))
 refine Jd [0,0] [(0,Sl (At b1 o1) l.length c_l),(1,.func (.func k_f) #[] caps_f),(7,I (l.length:Int)),(8,I (IntKind.i64.wrap ((i:Int) + 1)))] ?_
 have e1:IntKind.i64.wrap ((i:Int) + 1) = (i:Int) + 1:=IntWalk.i64_in _ (by omega)
 refine J1 (fr':=[(0,Sl (At b1 o1) l.length c_l),(1,.func (.func k_f) #[] caps_f),(7,I (l.length:Int)),(8,I ((i:Int) + 1))]) (L':=[]) (by simp only [e1]) (by rfl) ?_
 clear e1
 refine Jc ?_
 exact Jba (i + 1) ⟨(by omega),(Jfh hx1 (by simpa using h2) hn)⟩ (by (try dsimp only);omega)
 try simp only [BB] at h1
 refine JaT (J2 (Jaf (JW (Ja ?_))))
 refine Jg [0] [(4,I (-1))] (Jk ?_)
 refine Jl [0] [I (-1)] (Jw (Jt.le_refl _) ?_)
 have hf_:(Jbm p_f l) = (-1):=by
  exact Jeq (by rw [List.take_of_length_le (by omega)] at hn;exact hn)
 · (try rw [hf_]);(simp only [JM];done)
theorem Jjn (G:Jt) (a_l:Option Addr) (c_l:Nat) (l:List JS) (h_l:RS Jaz G a_l c_l l) (k_f:FuncId) (caps_f:Array Value) (p_f:JS → Bool) (hk_f:Jgc Tryz.prog k_f) (h_f:∀ (vs0:List Value) (x0:JS) (hx0:Jaz.R G vs0 x0),Con Tryz.prog k_f (#[.agg vs0.toArray] ++ caps_f) G [] (fun u _ _=>u = Bo (p_f x0))) :Con Tryz.prog 204 #[Sl a_l l.length c_l,.func (.func k_f) #[] caps_f] G [] (fun u G' L'=>u = Bo (l.any p_f)):=by
 refine JL Tryz.func204 9 [(0,Sl a_l l.length c_l),(1,.func (.func k_f) #[] caps_f)] rfl (fun w0 G0=>?_)
 refine Jg [0] [(0,Sl a_l l.length c_l),(1,.func (.func k_f) #[] caps_f)] (Je (Jb ?_))
 refine Jd [0,0] [(5,Sl a_l l.length c_l),(6,.func (.func k_f) #[] caps_f)] ?_
 refine Ji 7 (I (Jbm p_f l)) (JlX G a_l c_l l h_l k_f caps_f p_f hk_f h_f) ?_
 refine Jd [0,0] [(4,Bo (decide (Jbm p_f l ≥ 0)))] (Jc (Ja (Jk ?_)))
 refine Jl [0] [Bo (decide (Jbm p_f l ≥ 0))] (Jw (Jt.le_refl _) ?_)
 have hf_:(l.any p_f) = (decide (Jbm p_f l ≥ 0)):=by
  rw [Jfi]
 · (try rw [hf_]);(simp only [JM];done)
theorem JoM (G:Jt) (a_l:Option Addr) (c_l:Nat) (l:List Int) (h_l:RS EU G a_l c_l l) :Con Tryz.prog 149 #[Sl a_l l.length c_l] G [] (fun u G' L'=>∃ (a1:Option Addr) (c2:Nat) (r3:List Seg),u = Sl a1 l.length c2 ∧ (J8 EU G' a1 c2 l r3) ∧ L' = [r3]):=by
 refine JL Tryz.func149 8 [(0,Sl a_l l.length c_l)] rfl (fun w0 G0=>?_)
 refine Jg [0] [(0,Sl a_l l.length c_l)] (Je (Je (Jb ?_)))
 refine Jd [0] [(0,Sl a_l l.length c_l),(3,Sl a_l l.length c_l)] ?_
 refine JfF 4 (Bo ((a_l).isNone)) (by intro w;cases a_l <;> kernel_rfl) ?_
 refine Jc (Ja ?_)
 refine Jo ((a_l).isNone) (fun h1=>?_) (fun h1=>?_)
 try simp only [BB] at h1
 refine Jg [0] [(2,Sl none 0 0)] (Jk (Jh ?_))
 refine Jc0 ?_
 refine Jj 0 ?_
 have hf1:l = []:=by
  exact RS.isNil h_l h1
 refine Jl [0] [Sl none 0 0] (JY [[]] (.cons_cons _ .slnil) (Jt.le_refl _) ?_)
 rw [hf1]
 try dsimp only
 exact ⟨none,0,([]),rfl,(J8.none EU _),rfl⟩
 try simp only [BB] at h1
 refine Jn (Ja (Je (Jb ?_)))
 refine JaB 5 0 #[] 48 (fun b1=>?_)
 refine Jd [0] [(5,Sl (At b1 0) 0 0),(6,Sl a_l l.length c_l)] ?_
 refine Je8 7 48 0 (J8.of_lit (E:=EU) (b:=b1) [] [] trivial (by simp)) h_l (fun a1 c1 r1 hr1=>?_)
 refine Jd [0] [(2,Sl a1 l.length c1)] (Jc (Ja (Jk ?_)))
 refine Jj 0 ?_
 have hf2:l = l:=by
  rfl
 refine Jl [0] [Sl a1 l.length c1] (JY [r1] (.cons_cons _ .slnil) (Jt.le_refl _) ?_)
 rw [hf2]
 try dsimp only
 exact ⟨a1,c1,r1,rfl,hr1,rfl⟩
theorem Jp1 (G:Jt) (a_l:Option Addr) (c_l:Nat) (l:List Int) (h_l:RS EU G a_l c_l l) (k_f:FuncId) (caps_f:Array Value) (p_f:Int → Bool) (hk_f:Jgc Tryz.prog k_f) (h_f:∀ (x0:Int) (hx0:rU x0),Con Tryz.prog k_f (#[U x0] ++ caps_f) G [] (fun u _ _=>u = Bo (p_f x0))) :Con Tryz.prog 216 #[Sl a_l l.length c_l,.func (.func k_f) #[] caps_f] G [] (fun u G' L'=>u = I (Jbm p_f l)):=by
 refine JL Tryz.func216 19 [(0,Sl a_l l.length c_l),(1,.func (.func k_f) #[] caps_f)] rfl (fun w0 G0=>?_)
 refine Jg [0] [(0,Sl a_l l.length c_l),(1,.func (.func k_f) #[] caps_f)] (Je ?_)
 refine Jg [0,0,0] [(0,Sl a_l l.length c_l),(1,.func (.func k_f) #[] caps_f),(7,I (l.length:Int)),(8,I 0)] (Jy ?_)
 have hlm_h_l:l.length ≤ 9223372036854775807:=Nat.le_trans (h_l).le (h_l).max
 refine Ja8 (σ:=Nat) (fun q_=>(q_ ≤ l.length) ∧ ((l.take q_).any p_f = false)) (fun q_=>[(0,Sl a_l l.length c_l),(1,.func (.func k_f) #[] caps_f),(7,I (l.length:Int)),(8,I (q_:Int))]) (fun q_=>G) (fun q_=>[]) (fun q_=>l.length - q_) 0 ⟨(by (try dsimp only);exact Nat.zero_le _),(by (try dsimp only);simp)⟩ (fun q_ hs=>?_)
 revert hs;revert q_;intro i hs
 obtain ⟨hi,hn⟩:=hs
 refine JaJ (fr':=[(0,Sl a_l l.length c_l),(1,.func (.func k_f) #[] caps_f),(7,I (l.length:Int)),(8,I (i:Int))]) (L':=[]) rfl rfl ?_
 refine Jg [0] [(0,Sl a_l l.length c_l),(1,.func (.func k_f) #[] caps_f),(7,I (l.length:Int)),(8,I (i:Int)),(9,Bo (decide ((i:Int) < (l.length:Int))))] (Je ?_)
 refine Jo (decide ((i:Int) < (l.length:Int))) (fun h1=>?_) (fun h1=>?_)
 try simp only [BB] at h1
 refine Jn (Ja (Je (Jy ?_)))
 refine Jg [0,0] [(0,Sl a_l l.length c_l),(1,.func (.func k_f) #[] caps_f),(5,I (i:Int)),(7,I (l.length:Int)),(8,I (i:Int))] (Je (Jb ?_))
 refine Jd [0,0,0] [(0,Sl a_l l.length c_l),(1,.func (.func k_f) #[] caps_f),(5,I (i:Int)),(7,I (l.length:Int)),(8,I (i:Int)),(11,.func (.func k_f) #[] caps_f),(12,Sl a_l l.length c_l),(13,I (i:Int))] ?_
 obtain ⟨b1,o1,rfl⟩:=RS.addr h_l (k:=i) (by omega)
 obtain ⟨x1,hx1⟩:=Jb1 (l:=l) (k:=i) (by omega)
 obtain ⟨_,⟨rfl,w1⟩,hc1⟩:=RS.get h_l hx1
 refine Jac (b:=b1) (off:=o1) (len:=l.length) (cap:=c_l) (ik:=.i64) 14 48 1 i (by omega) ?_
 refine J6 15 48 (cs:=[U x1]) 0 (U x1) hc1 ?_
 refine Jdm (k:=k_f) (caps:=caps_f) (args:=#[U x1]) 16 (Bo (p_f x1)) hk_f (h_f x1 w1) ?_
 refine Jc (Ja ?_)
 refine Jo (p_f x1) (fun h2=>?_) (fun h2=>?_)
 try simp only [BB] at h2
 refine Jg [0,0] [(4,I (i:Int))] (Jk (Js (Jh (Jbc (Js (Jh ?_))))))
 refine Jl [0] [I (i:Int)] (Jw (Jt.le_refl _) ?_)
 have hf_:(Jbm p_f l) = (i:Int):=by
  exact JeH hx1 (by simpa using h2) hn
 · (try rw [hf_]);(simp only [JM];done)
 try simp only [BB] at h2
 refine Jn (JK (Ja (Jb ?_)))
 refine Jd [0,0] [(0,Sl (At b1 o1) l.length c_l),(1,.func (.func k_f) #[] caps_f),(7,I (l.length:Int)),(8,I (IntKind.i64.wrap ((i:Int) + 1)))] ?_
 have e1:IntKind.i64.wrap ((i:Int) + 1) = (i:Int) + 1:=IntWalk.i64_in _ (by omega)
 refine J1 (fr':=[(0,Sl (At b1 o1) l.length c_l),(1,.func (.func k_f) #[] caps_f),(7,I (l.length:Int)),(8,I ((i:Int) + 1))]) (L':=[]) (by simp only [e1]) (by rfl) ?_
 clear e1
 refine Jc ?_
 exact Jba (i + 1) ⟨(by omega),(Jfh hx1 (by simpa using h2) hn)⟩ (by (try dsimp only);omega)
 try simp only [BB] at h1
 refine JaT (J2 (Jaf (JW (Ja ?_))))
 refine Jg [0] [(4,I (-1))] (Jk ?_)
 refine Jl [0] [I (-1)] (Jw (Jt.le_refl _) ?_)
 have hf_:(Jbm p_f l) = (-1):=by
  exact Jeq (by rw [List.take_of_length_le (by omega)] at hn;exact hn)
 · (try rw [hf_]);(simp only [JM];done)
theorem Jrh (G:Jt) (a_l:Option Addr) (c_l:Nat) (l:List Int) (h_l:RS EU G a_l c_l l) (k_f:FuncId) (caps_f:Array Value) (p_f:Int → Bool) (hk_f:Jgc Tryz.prog k_f) (h_f:∀ (x0:Int) (hx0:rU x0),Con Tryz.prog k_f (#[U x0] ++ caps_f) G [] (fun u _ _=>u = Bo (p_f x0))) :Con Tryz.prog 208 #[Sl a_l l.length c_l,.func (.func k_f) #[] caps_f] G [] (fun u G' L'=>u = Bo (l.any p_f)):=by
 refine JL Tryz.func208 9 [(0,Sl a_l l.length c_l),(1,.func (.func k_f) #[] caps_f)] rfl (fun w0 G0=>?_)
 refine Jg [0] [(0,Sl a_l l.length c_l),(1,.func (.func k_f) #[] caps_f)] (Je (Jb ?_))
 refine Jd [0,0] [(5,Sl a_l l.length c_l),(6,.func (.func k_f) #[] caps_f)] ?_
 refine Ji 7 (I (Jbm p_f l)) (Jp1 G a_l c_l l h_l k_f caps_f p_f hk_f h_f) ?_
 refine Jd [0,0] [(4,Bo (decide (Jbm p_f l ≥ 0)))] (Jc (Ja (Jk ?_)))
 refine Jl [0] [Bo (decide (Jbm p_f l ≥ 0))] (Jw (Jt.le_refl _) ?_)
 have hf_:(l.any p_f) = (decide (Jbm p_f l ≥ 0)):=by
  rw [Jfi]
 · (try rw [hf_]);(simp only [JM];done)
end Go.Proofs.YtnnlpbjdignhaaaGreatDoor
