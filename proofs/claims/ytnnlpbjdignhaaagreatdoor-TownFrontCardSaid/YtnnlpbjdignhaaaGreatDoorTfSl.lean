import Derived.Test.YtnnlpbjdignhaaaGreatDoorTfTy
namespace Go.Proofs.YtnnlpbjdignhaaaGreatDoor
open Go.Tx
set_option linter.unusedVariables false
set_option linter.unusedSimpArgs false
theorem Jf5 {α:Type} {a b:List α} {i:Nat} {x y:α} (h:a.take i=b.take i) (hx:a[i]? = some x) (hy:b[i]? = some y) (e:x=y):a.take (i+1)=b.take (i+1):=by
 rw [List.take_add_one,List.take_add_one,h,hx,hy,e]
theorem ne_at {α:Type} {a b:List α} {i:Nat} {x y:α} (hx:a[i]? = some x) (hy:b[i]? = some y) (e:¬ x=y):¬ a=b:=by
 intro h;rw [h,hy] at hx;exact e (Option.some.inj hx).symm
theorem Jhd {α:Type} {a b:List α} {i:Nat} (hl:a.length=b.length) (hi:a.length≤i) (h:a.take i=b.take i):a=b:=by
 rwa [List.take_of_length_le hi,List.take_of_length_le (by omega)] at h
theorem Jau {x y:JU}:x=y ↔ x.epoch=y.epoch∧x.root=y.root∧x.prev=y.prev∧x.at_=y.at_:=by cases x;cases y;simp
theorem JeG {x y:Vn}:x=y ↔ x.kind=y.kind∧x.who=y.who∧x.n=y.n∧x.at_=y.at_:=by cases x;cases y;simp
theorem Jfg {α:Type} {p:α→Bool} {l:List α} {i:Nat} (h:Qo p l=(i:Int)):∃ x,l[i]? = some x∧p x=true:=by
 unfold Qo at h
 cases hh:l.findIdx? p with
 | none=>rw [hh] at h;simp at h
 | some k =>
  rw [hh] at h
  have:k=i:=by simp at h;omega
  subst this
  rw [List.findIdx?_eq_some_iff_getElem] at hh
  obtain ⟨h1,h2,_⟩:=hh
  exact ⟨l[k],List.getElem?_eq_getElem h1,h2⟩
theorem Jdr (G:Jt) (a_a:Option Addr) (c_a:Nat) (a:List Vn) (h_a:RS Q0 G a_a c_a a) (a_b:Option Addr) (c_b:Nat) (b:List Vn) (h_b:RS Q0 G a_b c_b b) :QE Tryz.prog 15 #[Sl a_a a.length c_a,Sl a_b b.length c_b] G [] (fun u G' L'=>u=Bo (decide (a=b))):=by
 refine JL Tryz.func15 26 [(0,Sl a_a a.length c_a),(1,Sl a_b b.length c_b)] rfl (fun w0 G0=>?_)
 refine Jg [0] [(0,Sl a_a a.length c_a),(1,Sl a_b b.length c_b)] (Je ?_)
 refine Jg [0,0,0,0,0] [(0,Sl a_a a.length c_a),(1,Sl a_b b.length c_b),(10,Bo (!decide ((a.length:Int)=(b.length:Int))))] ?_
 refine Jo (!decide ((a.length:Int)=(b.length:Int))) (fun h1=>?_) (fun h1=>?_)
 try simp only [BB] at h1
 refine Jg [0] [(4,Bo false)] (Jk (Jh ?_))
 refine Jl [0] [Bo false] (Jv (Jt.le_refl _) ?_)
 have hf_:(decide (a=b))=false:=by
  (rw [decide_eq_false];intro hh;subst hh;exact absurd rfl h1)
 · (try rw [hf_]);(simp only [JM];done)
 try simp only [BB] at h1
 refine Jm (Ja (Je ?_))
 refine Jg [0,0,0] [(0,Sl a_a a.length c_a),(1,Sl a_b b.length c_b),(12,I (a.length:Int)),(13,I 0)] (Jy ?_)
 have hlm_h_a:a.length≤9223372036854775807:=Nat.le_trans (h_a).le (h_a).max
 have hlm_h_b:b.length≤9223372036854775807:=Nat.le_trans (h_b).le (h_b).max
 refine Qb (σ:=Nat) (fun q_=>(q_≤a.length)∧(a.take q_=b.take q_)) (fun q_=>[(0,Sl a_a a.length c_a),(1,Sl a_b b.length c_b),(12,I (a.length:Int)),(13,I (q_:Int))]) (fun q_=>G) (fun q_=>[]) (fun q_=>a.length-q_) 0 ⟨(by (try dsimp only);exact Nat.zero_le _),rfl⟩ (fun q_ hs=>?_)
 revert hs;revert q_;intro i hs
 obtain ⟨hi,he⟩:=hs
 refine KJ (fr':=[(0,Sl a_a a.length c_a),(1,Sl a_b b.length c_b),(12,I (a.length:Int)),(13,I (i:Int))]) (L':=[]) rfl rfl ?_
 refine Jg [0] [(0,Sl a_a a.length c_a),(1,Sl a_b b.length c_b),(12,I (a.length:Int)),(13,I (i:Int)),(14,Bo (decide ((i:Int)<(a.length:Int))))] (Je ?_)
 refine Jo (decide ((i:Int)<(a.length:Int))) (fun h2=>?_) (fun h2=>?_)
 try simp only [BB] at h2
 refine Jm (Ja (Je (Jy ?_)))
 refine Jg [0,0] [(0,Sl a_a a.length c_a),(1,Sl a_b b.length c_b),(5,I (i:Int)),(12,I (a.length:Int)),(13,I (i:Int))] (Je ?_)
 obtain ⟨b1,o1,rfl⟩:=RS.addr h_a (k:=i) (by omega)
 obtain ⟨x1,hx1⟩:=Q8 (l:=a) (k:=i) (by omega)
 obtain ⟨_,⟨rfl,_,_,_,_⟩,hc1⟩:=RS.get h_a hx1
 obtain ⟨b2,o2,rfl⟩:=RS.addr h_b (k:=i) (by omega)
 obtain ⟨x2,hx2⟩:=Q8 (l:=b) (k:=i) (by omega)
 obtain ⟨_,⟨rfl,_,_,_,_⟩,hc2⟩:=RS.get h_b hx2
 refine Kw [] ?_
 refine Wa [(0,Sl (At b1 o1) a.length c_a),(1,I (i:Int)),(2,Pt b1 (o1+i*4)),(3,.agg #[I x1.kind,I x1.who,I x1.n,I x1.at_]),(4,Sl (At b2 o2) b.length c_b),(5,I (i:Int)),(6,Pt b2 (o2+i*4)),(7,.agg #[I x2.kind,I x2.who,I x2.n,I x2.at_]),(8,Bo (!(decide (x1.kind=x2.kind) && decide (x1.who=x2.who) && decide (x1.n=x2.n) && decide (x1.at_=x2.at_))))] ?_
 refine Kv [] [(0,0),(1,0),(4,0),(5,0)] [2,3,6,7,8] [(0,Sl (At b1 o1) a.length c_a),(1,Sl (At b2 o2) b.length c_b),(12,I (a.length:Int)),(13,I (i:Int)),(24,Bo (!(decide (x1.kind=x2.kind) && decide (x1.who=x2.who) && decide (x1.n=x2.n) && decide (x1.at_=x2.at_))))] (List.forall_mem_cons.2 ⟨?_,(List.forall_mem_cons.2 ⟨?_,(List.forall_mem_cons.2 ⟨?_,(List.forall_mem_cons.2 ⟨?_,(List.forall_mem_cons.2 ⟨?_,List.forall_mem_nil _⟩)⟩)⟩)⟩)⟩) ?_
 refine Jq 2 18 (Pt b1 (o1+i*4)) [(16,Sl (At b1 o1) a.length c_a),(17,I (i:Int))] (fun X=>?_)
 exact Kh (b:=b1) (off:=o1) (len:=a.length) (cap:=c_a) (ik:=.i64) 18 60 4 i (by omega) Jn
 refine Jq 3 19 (.agg #[I x1.kind,I x1.who,I x1.n,I x1.at_]) [(18,Pt b1 (o1+i*4))] (fun X=>?_)
 exact J9 19 60 (cs:=[I x1.kind,I x1.who,I x1.n,I x1.at_]) 0 (.agg #[I x1.kind,I x1.who,I x1.n,I x1.at_]) hc1 Jn
 refine Jq 6 22 (Pt b2 (o2+i*4)) [(20,Sl (At b2 o2) b.length c_b),(21,I (i:Int))] (fun X=>?_)
 exact Kh (b:=b2) (off:=o2) (len:=b.length) (cap:=c_b) (ik:=.i64) 22 60 4 i (by omega) Jn
 refine Jq 7 23 (.agg #[I x2.kind,I x2.who,I x2.n,I x2.at_]) [(22,Pt b2 (o2+i*4))] (fun X=>?_)
 exact J9 23 60 (cs:=[I x2.kind,I x2.who,I x2.n,I x2.at_]) 0 (.agg #[I x2.kind,I x2.who,I x2.n,I x2.at_]) hc2 Jn
 refine Jq 8 24 (Bo (!(decide (x1.kind=x2.kind) && decide (x1.who=x2.who) && decide (x1.n=x2.n) && decide (x1.at_=x2.at_)))) [(19,.agg #[I x1.kind,I x1.who,I x1.n,I x1.at_]),(23,.agg #[I x2.kind,I x2.who,I x2.n,I x2.at_])] (fun X=>?_)
 exact Jap 24 (Bo (!(decide (x1.kind=x2.kind) && (decide (x1.who=x2.who) && (decide (x1.n=x2.n) && (decide (x1.at_=x2.at_) && true)))))) (Bo (!(decide (x1.kind=x2.kind) && decide (x1.who=x2.who) && decide (x1.n=x2.n) && decide (x1.at_=x2.at_)))) (by simp [WW,Bool.and_assoc]) Jn
 refine Ja ?_
 refine Jo (!(decide (x1.kind=x2.kind) && decide (x1.who=x2.who) && decide (x1.n=x2.n) && decide (x1.at_=x2.at_))) (fun h3=>?_) (fun h3=>?_)
 try simp only [BB] at h3
 refine Jg [0] [(4,Bo false)] (Jk (Js (Jh (QB (Js (Jh ?_))))))
 refine Jl [0] [Bo false] (Jv (Jt.le_refl _) ?_)
 have hf_:(decide (a=b))=false:=by
  (rw [decide_eq_false];exact ne_at hx1 hx2 (by simp_all [JeG]))
 · (try rw [hf_]);(simp only [JM];done)
 try simp only [BB] at h3
 refine Jm (JK (Ja (Jb ?_)))
 refine Jc [0,0] [(0,Sl (At b1 o1) a.length c_a),(1,Sl (At b2 o2) b.length c_b),(12,I (a.length:Int)),(13,I (IntKind.i64.wrap ((i:Int)+1)))] ?_
 have e1:IntKind.i64.wrap ((i:Int)+1)=(i:Int)+1:=IntWalk.i64_in _ (by omega)
 refine J2 (fr':=[(0,Sl (At b1 o1) a.length c_a),(1,Sl (At b2 o2) b.length c_b),(12,I (a.length:Int)),(13,I ((i:Int)+1))]) (L':=[]) (by simp only [e1]) (by rfl) ?_
 clear e1
 refine Jd ?_
 exact Qd (i+1) ⟨(by omega),(Jf5 he hx1 hx2 (by simp_all [JeG]))⟩ (by (try dsimp only);omega)
 try simp only [BB] at h2
 refine KU (J3 (Ke (JW (Ja ?_))))
 refine Jg [0] [(4,Bo true)] (Jk ?_)
 refine Jl [0] [Bo true] (Jv (Jt.le_refl _) ?_)
 have hf_:(decide (a=b))=true:=by
  (rw [decide_eq_true];exact Jhd (by omega) (by omega) he)
 · (try rw [hf_]);(simp only [JM];done)
theorem JdZ (G:Jt) (a_l:Option Addr) (c_l:Nat) (l:List JV) (h_l:RS Ki G a_l c_l l) (k_f:FuncId) (caps_f:Array Value) (p_f:JV→Bool) (hk_f:Jak Tryz.prog k_f) (h_f:∀ (vs0:List Value) (x0:JV) (hx0:Ki.R G vs0 x0),QE Tryz.prog k_f (#[.agg vs0.toArray]++caps_f) G [] (fun u _ _=>u=Bo (p_f x0))) :QE Tryz.prog 80 #[Sl a_l l.length c_l,.func (.func k_f) #[] caps_f] G [] (fun u G' L'=>u=I (Qo p_f l)):=by
 refine JL Tryz.func80 19 [(0,Sl a_l l.length c_l),(1,.func (.func k_f) #[] caps_f)] rfl (fun w0 G0=>?_)
 refine Jg [0] [(0,Sl a_l l.length c_l),(1,.func (.func k_f) #[] caps_f)] (Je ?_)
 refine Jg [0,0,0] [(0,Sl a_l l.length c_l),(1,.func (.func k_f) #[] caps_f),(7,I (l.length:Int)),(8,I 0)] (Jy ?_)
 have hlm_h_l:l.length≤9223372036854775807:=Nat.le_trans (h_l).le (h_l).max
 refine Qb (σ:=Nat) (fun q_=>(q_≤l.length)∧((l.take q_).any p_f=false)) (fun q_=>[(0,Sl a_l l.length c_l),(1,.func (.func k_f) #[] caps_f),(7,I (l.length:Int)),(8,I (q_:Int))]) (fun q_=>G) (fun q_=>[]) (fun q_=>l.length-q_) 0 ⟨(by (try dsimp only);exact Nat.zero_le _),(by (try dsimp only);simp)⟩ (fun q_ hs=>?_)
 revert hs;revert q_;intro i hs
 obtain ⟨hi,hn⟩:=hs
 refine KJ (fr':=[(0,Sl a_l l.length c_l),(1,.func (.func k_f) #[] caps_f),(7,I (l.length:Int)),(8,I (i:Int))]) (L':=[]) rfl rfl ?_
 refine Jg [0] [(0,Sl a_l l.length c_l),(1,.func (.func k_f) #[] caps_f),(7,I (l.length:Int)),(8,I (i:Int)),(9,Bo (decide ((i:Int)<(l.length:Int))))] (Je ?_)
 refine Jo (decide ((i:Int)<(l.length:Int))) (fun h1=>?_) (fun h1=>?_)
 try simp only [BB] at h1
 refine Jm (Ja (Je (Jy ?_)))
 refine Jg [0,0] [(0,Sl a_l l.length c_l),(1,.func (.func k_f) #[] caps_f),(5,I (i:Int)),(7,I (l.length:Int)),(8,I (i:Int))] (Je (Jb ?_))
 refine Jc [0,0,0] [(0,Sl a_l l.length c_l),(1,.func (.func k_f) #[] caps_f),(5,I (i:Int)),(7,I (l.length:Int)),(8,I (i:Int)),(11,.func (.func k_f) #[] caps_f),(12,Sl a_l l.length c_l),(13,I (i:Int))] ?_
 obtain ⟨b1,o1,rfl⟩:=RS.addr h_l (k:=i) (by omega)
 obtain ⟨x1,hx1⟩:=Q8 (l:=l) (k:=i) (by omega)
 obtain ⟨_,⟨a1,c1,a2,c2,a3,c3,rfl,w1,w2,w3,w4,hs1,w5,w6,w7,w8,w9,hs2,hs3⟩,hc1⟩:=RS.get h_l hx1
 refine Kh (b:=b1) (off:=o1) (len:=l.length) (cap:=c_l) (ik:=.i64) 14 72 12 i (by omega) ?_
 refine J9 15 72 (cs:=(J4 x1 a1 c1 a2 c2 a3 c3)) 0 (KV x1 a1 c1 a2 c2 a3 c3) hc1 ?_
 refine Zk (k:=k_f) (caps:=caps_f) (args:=#[(KV x1 a1 c1 a2 c2 a3 c3)]) 16 (Bo (p_f x1)) hk_f (h_f (J4 x1 a1 c1 a2 c2 a3 c3) x1 (⟨a1,c1,a2,c2,a3,c3,rfl,w1,w2,w3,w4,hs1,w5,w6,w7,w8,w9,hs2,hs3⟩)) ?_
 refine Jd (Ja ?_)
 refine Jo (p_f x1) (fun h2=>?_) (fun h2=>?_)
 try simp only [BB] at h2
 refine Jg [0,0] [(4,I (i:Int))] (Jk (Js (Jh (QB (Js (Jh ?_))))))
 refine Jl [0] [I (i:Int)] (Jv (Jt.le_refl _) ?_)
 have hf_:(Qo p_f l)=(i:Int):=by
  exact YK hx1 (by simpa using h2) hn
 · (try rw [hf_]);(simp only [JM];done)
 try simp only [BB] at h2
 refine Jm (JK (Ja (Jb ?_)))
 refine Jc [0,0] [(0,Sl (At b1 o1) l.length c_l),(1,.func (.func k_f) #[] caps_f),(7,I (l.length:Int)),(8,I (IntKind.i64.wrap ((i:Int)+1)))] ?_
 have e1:IntKind.i64.wrap ((i:Int)+1)=(i:Int)+1:=IntWalk.i64_in _ (by omega)
 refine J2 (fr':=[(0,Sl (At b1 o1) l.length c_l),(1,.func (.func k_f) #[] caps_f),(7,I (l.length:Int)),(8,I ((i:Int)+1))]) (L':=[]) (by simp only [J4,KV,e1];first | done | rfl) (by rfl) ?_
 clear e1
 refine Jd ?_
 exact Qd (i+1) ⟨(by omega),(Vl hx1 (by simpa using h2) hn)⟩ (by (try dsimp only);omega)
 try simp only [BB] at h1
 refine KU (J3 (Ke (JW (Ja ?_))))
 refine Jg [0] [(4,I (-1))] (Jk ?_)
 refine Jl [0] [I (-1)] (Jv (Jt.le_refl _) ?_)
 have hf_:(Qo p_f l)=(-1):=by
  exact Yr (by rw [List.take_of_length_le (by omega)] at hn;exact hn)
 · (try rw [hf_]);(simp only [JM];done)
theorem Jfh (G:Jt) (a_l:Option Addr) (c_l:Nat) (l:List JV) (h_l:RS Ki G a_l c_l l) (k_f:FuncId) (caps_f:Array Value) (p_f:JV→Bool) (hk_f:Jak Tryz.prog k_f) (h_f:∀ (vs0:List Value) (x0:JV) (hx0:Ki.R G vs0 x0),QE Tryz.prog k_f (#[.agg vs0.toArray]++caps_f) G [] (fun u _ _=>u=Bo (p_f x0))) :QE Tryz.prog 39 #[Sl a_l l.length c_l,.func (.func k_f) #[] caps_f] G [] (fun u G' L'=>u=Bo (l.any p_f)):=by
 refine JL Tryz.func39 9 [(0,Sl a_l l.length c_l),(1,.func (.func k_f) #[] caps_f)] rfl (fun w0 G0=>?_)
 refine Jg [0] [(0,Sl a_l l.length c_l),(1,.func (.func k_f) #[] caps_f)] (Je (Jb ?_))
 refine Jc [0,0] [(5,Sl a_l l.length c_l),(6,.func (.func k_f) #[] caps_f)] ?_
 refine Ji 7 (I (Qo p_f l)) (JdZ G a_l c_l l h_l k_f caps_f p_f hk_f h_f) ?_
 refine Jc [0,0] [(4,Bo (decide (Qo p_f l ≥ 0)))] (Jd (Ja (Jk ?_)))
 refine Jl [0] [Bo (decide (Qo p_f l ≥ 0))] (Jv (Jt.le_refl _) ?_)
 have hf_:(l.any p_f)=(decide (Qo p_f l ≥ 0)):=by
  rw [Vm]
 · (try rw [hf_]);(simp only [JM];done)
theorem JeH (G:Jt) (a_l:Option Addr) (c_l:Nat) (l:List (List UInt8)) (h_l:RS ES G a_l c_l l) :QE Tryz.prog 144 #[Sl a_l l.length c_l] G [] (fun u G' L'=>∃ (a1:Option Addr) (c2:Nat) (r3:List Kq),u=Sl a1 l.length c2∧(J8 ES G' a1 c2 l r3)∧L'=[r3]):=by
 refine JL Tryz.func144 8 [(0,Sl a_l l.length c_l)] rfl (fun w0 G0=>?_)
 refine Jg [0] [(0,Sl a_l l.length c_l)] (Je (Je (Jb ?_)))
 refine Jc [0] [(0,Sl a_l l.length c_l),(3,Sl a_l l.length c_l)] ?_
 refine VN 4 (Bo ((a_l).isNone)) (by intro w;cases a_l <;> kernel_rfl) ?_
 refine Jd (Ja ?_)
 refine Jo ((a_l).isNone) (fun h1=>?_) (fun h1=>?_)
 try simp only [BB] at h1
 refine Jg [0] [(2,Sl none 0 0)] (Jk (Jh ?_))
 refine W2 ?_
 refine Jj 0 ?_
 have hf1:l=[]:=by
  exact RS.isNil h_l h1
 refine Jl [0] [Sl none 0 0] (JY [[]] (.cons_cons _ .slnil) (Jt.le_refl _) ?_)
 rw [hf1]
 try dsimp only
 exact ⟨none,0,([]),rfl,(J8.none ES _),rfl⟩
 try simp only [BB] at h1
 refine Jm (Ja (Je (Jb ?_)))
 refine KC 5 0 #[] 9 (fun b1=>?_)
 refine Jc [0] [(5,Sl (At b1 0) 0 0),(6,Sl a_l l.length c_l)] ?_
 refine Vc 7 9 0 (J8.of_lit (E:=ES) (b:=b1) [] [] trivial (by simp)) h_l (fun a1 c1 r1 hr1=>?_)
 refine Jc [0] [(2,Sl a1 l.length c1)] (Jd (Ja (Jk ?_)))
 refine Jj 0 ?_
 have hf2:l=l:=by
  rfl
 refine Jl [0] [Sl a1 l.length c1] (JY [r1] (.cons_cons _ .slnil) (Jt.le_refl _) ?_)
 rw [hf2]
 try dsimp only
 exact ⟨a1,c1,r1,rfl,hr1,rfl⟩
theorem Jj9 (G:Jt) (a_l:Option Addr) (c_l:Nat) (l:List (List UInt8)) (h_l:RS ES G a_l c_l l) (k_f:FuncId) (caps_f:Array Value) (p_f:(List UInt8)→Bool) (hk_f:Jak Tryz.prog k_f) (h_f:∀ (x0:(List UInt8)) (hx0:(x0).length≤140737488351232),QE Tryz.prog k_f (#[Sr x0]++caps_f) G [] (fun u _ _=>u=Bo (p_f x0))) :QE Tryz.prog 84 #[Sl a_l l.length c_l,.func (.func k_f) #[] caps_f] G [] (fun u G' L'=>u=I (Qo p_f l)):=by
 refine JL Tryz.func84 19 [(0,Sl a_l l.length c_l),(1,.func (.func k_f) #[] caps_f)] rfl (fun w0 G0=>?_)
 refine Jg [0] [(0,Sl a_l l.length c_l),(1,.func (.func k_f) #[] caps_f)] (Je ?_)
 refine Jg [0,0,0] [(0,Sl a_l l.length c_l),(1,.func (.func k_f) #[] caps_f),(7,I (l.length:Int)),(8,I 0)] (Jy ?_)
 have hlm_h_l:l.length≤9223372036854775807:=Nat.le_trans (h_l).le (h_l).max
 refine Qb (σ:=Nat) (fun q_=>(q_≤l.length)∧((l.take q_).any p_f=false)) (fun q_=>[(0,Sl a_l l.length c_l),(1,.func (.func k_f) #[] caps_f),(7,I (l.length:Int)),(8,I (q_:Int))]) (fun q_=>G) (fun q_=>[]) (fun q_=>l.length-q_) 0 ⟨(by (try dsimp only);exact Nat.zero_le _),(by (try dsimp only);simp)⟩ (fun q_ hs=>?_)
 revert hs;revert q_;intro i hs
 obtain ⟨hi,hn⟩:=hs
 refine KJ (fr':=[(0,Sl a_l l.length c_l),(1,.func (.func k_f) #[] caps_f),(7,I (l.length:Int)),(8,I (i:Int))]) (L':=[]) rfl rfl ?_
 refine Jg [0] [(0,Sl a_l l.length c_l),(1,.func (.func k_f) #[] caps_f),(7,I (l.length:Int)),(8,I (i:Int)),(9,Bo (decide ((i:Int)<(l.length:Int))))] (Je ?_)
 refine Jo (decide ((i:Int)<(l.length:Int))) (fun h1=>?_) (fun h1=>?_)
 try simp only [BB] at h1
 refine Jm (Ja (Je (Jy ?_)))
 refine Jg [0,0] [(0,Sl a_l l.length c_l),(1,.func (.func k_f) #[] caps_f),(5,I (i:Int)),(7,I (l.length:Int)),(8,I (i:Int))] (Je (Jb ?_))
 refine Jc [0,0,0] [(0,Sl a_l l.length c_l),(1,.func (.func k_f) #[] caps_f),(5,I (i:Int)),(7,I (l.length:Int)),(8,I (i:Int)),(11,.func (.func k_f) #[] caps_f),(12,Sl a_l l.length c_l),(13,I (i:Int))] ?_
 obtain ⟨b1,o1,rfl⟩:=RS.addr h_l (k:=i) (by omega)
 obtain ⟨x1,hx1⟩:=Q8 (l:=l) (k:=i) (by omega)
 obtain ⟨_,⟨rfl,w1⟩,hc1⟩:=RS.get h_l hx1
 refine Kh (b:=b1) (off:=o1) (len:=l.length) (cap:=c_l) (ik:=.i64) 14 9 1 i (by omega) ?_
 refine J9 15 9 (cs:=[Sr x1]) 0 (Sr x1) hc1 ?_
 refine Zk (k:=k_f) (caps:=caps_f) (args:=#[Sr x1]) 16 (Bo (p_f x1)) hk_f (h_f x1 w1) ?_
 refine Jd (Ja ?_)
 refine Jo (p_f x1) (fun h2=>?_) (fun h2=>?_)
 try simp only [BB] at h2
 refine Jg [0,0] [(4,I (i:Int))] (Jk (Js (Jh (QB (Js (Jh ?_))))))
 refine Jl [0] [I (i:Int)] (Jv (Jt.le_refl _) ?_)
 have hf_:(Qo p_f l)=(i:Int):=by
  exact YK hx1 (by simpa using h2) hn
 · (try rw [hf_]);(simp only [JM];done)
 try simp only [BB] at h2
 refine Jm (JK (Ja (Jb ?_)))
 refine Jc [0,0] [(0,Sl (At b1 o1) l.length c_l),(1,.func (.func k_f) #[] caps_f),(7,I (l.length:Int)),(8,I (IntKind.i64.wrap ((i:Int)+1)))] ?_
 have e1:IntKind.i64.wrap ((i:Int)+1)=(i:Int)+1:=IntWalk.i64_in _ (by omega)
 refine J2 (fr':=[(0,Sl (At b1 o1) l.length c_l),(1,.func (.func k_f) #[] caps_f),(7,I (l.length:Int)),(8,I ((i:Int)+1))]) (L':=[]) (by simp only [e1]) (by rfl) ?_
 clear e1
 refine Jd ?_
 exact Qd (i+1) ⟨(by omega),(Vl hx1 (by simpa using h2) hn)⟩ (by (try dsimp only);omega)
 try simp only [BB] at h1
 refine KU (J3 (Ke (JW (Ja ?_))))
 refine Jg [0] [(4,I (-1))] (Jk ?_)
 refine Jl [0] [I (-1)] (Jv (Jt.le_refl _) ?_)
 have hf_:(Qo p_f l)=(-1):=by
  exact Yr (by rw [List.take_of_length_le (by omega)] at hn;exact hn)
 · (try rw [hf_]);(simp only [JM];done)
theorem Jlp (G:Jt) (a_l:Option Addr) (c_l:Nat) (l:List (List UInt8)) (h_l:RS ES G a_l c_l l) (k_f:FuncId) (caps_f:Array Value) (p_f:(List UInt8)→Bool) (hk_f:Jak Tryz.prog k_f) (h_f:∀ (x0:(List UInt8)) (hx0:(x0).length≤140737488351232),QE Tryz.prog k_f (#[Sr x0]++caps_f) G [] (fun u _ _=>u=Bo (p_f x0))) :QE Tryz.prog 43 #[Sl a_l l.length c_l,.func (.func k_f) #[] caps_f] G [] (fun u G' L'=>u=Bo (l.any p_f)):=by
 refine JL Tryz.func43 9 [(0,Sl a_l l.length c_l),(1,.func (.func k_f) #[] caps_f)] rfl (fun w0 G0=>?_)
 refine Jg [0] [(0,Sl a_l l.length c_l),(1,.func (.func k_f) #[] caps_f)] (Je (Jb ?_))
 refine Jc [0,0] [(5,Sl a_l l.length c_l),(6,.func (.func k_f) #[] caps_f)] ?_
 refine Ji 7 (I (Qo p_f l)) (Jj9 G a_l c_l l h_l k_f caps_f p_f hk_f h_f) ?_
 refine Jc [0,0] [(4,Bo (decide (Qo p_f l ≥ 0)))] (Jd (Ja (Jk ?_)))
 refine Jl [0] [Bo (decide (Qo p_f l ≥ 0))] (Jv (Jt.le_refl _) ?_)
 have hf_:(l.any p_f)=(decide (Qo p_f l ≥ 0)):=by
  rw [Vm]
 · (try rw [hf_]);(simp only [JM];done)
theorem Jh7 (G:Jt) (a_l:Option Addr) (c_l:Nat) (l:List (List UInt8)) (h_l:RS ES G a_l c_l l) (v:List UInt8) :QE Tryz.prog 105 #[Sl a_l l.length c_l,Sr v] G [] (fun u G' L'=>u=I (Qo (fun x=>decide (v=x)) l)):=by
 refine JL Tryz.func105 19 [(0,Sl a_l l.length c_l),(1,Sr v)] rfl (fun w0 G0=>?_)
 refine Jg [0] [(0,Sl a_l l.length c_l),(1,Sr v)] (Je ?_)
 refine Jg [0,0,0] [(0,Sl a_l l.length c_l),(1,Sr v),(7,I (l.length:Int)),(8,I 0)] (Jy ?_)
 have hlm_h_l:l.length≤9223372036854775807:=Nat.le_trans (h_l).le (h_l).max
 refine Qb (σ:=Nat) (fun q_=>(q_≤l.length)∧((l.take q_).any (fun x=>decide (v=x))=false)) (fun q_=>[(0,Sl a_l l.length c_l),(1,Sr v),(7,I (l.length:Int)),(8,I (q_:Int))]) (fun q_=>G) (fun q_=>[]) (fun q_=>l.length-q_) 0 ⟨(by (try dsimp only);exact Nat.zero_le _),(by (try dsimp only);simp)⟩ (fun q_ hs=>?_)
 revert hs;revert q_;intro i hs
 obtain ⟨hi,hn⟩:=hs
 refine KJ (fr':=[(0,Sl a_l l.length c_l),(1,Sr v),(7,I (l.length:Int)),(8,I (i:Int))]) (L':=[]) rfl rfl ?_
 refine Jg [0] [(0,Sl a_l l.length c_l),(1,Sr v),(7,I (l.length:Int)),(8,I (i:Int)),(9,Bo (decide ((i:Int)<(l.length:Int))))] (Je ?_)
 refine Jo (decide ((i:Int)<(l.length:Int))) (fun h1=>?_) (fun h1=>?_)
 try simp only [BB] at h1
 refine Jm (Ja (Je (Jy ?_)))
 refine Jg [0,0] [(0,Sl a_l l.length c_l),(1,Sr v),(5,I (i:Int)),(7,I (l.length:Int)),(8,I (i:Int))] (Je (Jb ?_))
 refine Jc [0,0,0] [(0,Sl a_l l.length c_l),(1,Sr v),(5,I (i:Int)),(7,I (l.length:Int)),(8,I (i:Int)),(11,Sr v),(12,Sl a_l l.length c_l),(13,I (i:Int))] ?_
 obtain ⟨b1,o1,rfl⟩:=RS.addr h_l (k:=i) (by omega)
 obtain ⟨x1,hx1⟩:=Q8 (l:=l) (k:=i) (by omega)
 obtain ⟨_,⟨rfl,_⟩,hc1⟩:=RS.get h_l hx1
 refine Kh (b:=b1) (off:=o1) (len:=l.length) (cap:=c_l) (ik:=.i64) 14 9 1 i (by omega) ?_
 refine J9 15 9 (cs:=[Sr x1]) 0 (Sr x1) hc1 ?_
 refine Jc [0] [(0,Sl (At b1 o1) l.length c_l),(1,Sr v),(5,I (i:Int)),(7,I (l.length:Int)),(8,I (i:Int)),(16,Bo ((B v).toList == (B x1).toList))] ?_
 refine J2 (fr':=[(0,Sl (At b1 o1) l.length c_l),(1,Sr v),(5,I (i:Int)),(7,I (l.length:Int)),(8,I (i:Int)),(16,Bo (v == x1))]) (L':=[]) (by simp only [WW]) (by rfl) ?_
 refine Jd (Ja ?_)
 refine Jo (v == x1) (fun h2=>?_) (fun h2=>?_)
 try simp only [BB] at h2
 refine Jg [0,0] [(4,I (i:Int))] (Jk (Js (Jh (QB (Js (Jh ?_))))))
 refine Jl [0] [I (i:Int)] (Jv (Jt.le_refl _) ?_)
 have hf_:(Qo (fun x=>decide (v=x)) l)=(i:Int):=by
  exact YK hx1 (decide_eq_true (by simpa using h2)) hn
 · (try rw [hf_]);(simp only [JM];done)
 try simp only [BB] at h2
 refine Jm (JK (Ja (Jb ?_)))
 refine Jc [0,0] [(0,Sl (At b1 o1) l.length c_l),(1,Sr v),(7,I (l.length:Int)),(8,I (IntKind.i64.wrap ((i:Int)+1)))] ?_
 have e1:IntKind.i64.wrap ((i:Int)+1)=(i:Int)+1:=IntWalk.i64_in _ (by omega)
 refine J2 (fr':=[(0,Sl (At b1 o1) l.length c_l),(1,Sr v),(7,I (l.length:Int)),(8,I ((i:Int)+1))]) (L':=[]) (by simp only [e1]) (by rfl) ?_
 clear e1
 refine Jd ?_
 exact Qd (i+1) ⟨(by omega),(Vl hx1 (decide_eq_false (by simpa using h2)) hn)⟩ (by (try dsimp only);omega)
 try simp only [BB] at h1
 refine KU (J3 (Ke (JW (Ja ?_))))
 refine Jg [0] [(4,I (-1))] (Jk ?_)
 refine Jl [0] [I (-1)] (Jv (Jt.le_refl _) ?_)
 have hf_:(Qo (fun x=>decide (v=x)) l)=(-1):=by
  exact Yr (by rw [List.take_of_length_le (by omega)] at hn;exact hn)
 · (try rw [hf_]);(simp only [JM];done)
theorem Jlq (G:Jt) (a_l:Option Addr) (c_l:Nat) (l:List (List UInt8)) (h_l:RS ES G a_l c_l l) (v:List UInt8) :QE Tryz.prog 67 #[Sl a_l l.length c_l,Sr v] G [] (fun u G' L'=>u=Bo (l.any (fun x=>decide (v=x)))):=by
 refine JL Tryz.func67 9 [(0,Sl a_l l.length c_l),(1,Sr v)] rfl (fun w0 G0=>?_)
 refine Jg [0] [(0,Sl a_l l.length c_l),(1,Sr v)] (Je (Jb ?_))
 refine Jc [0,0] [(5,Sl a_l l.length c_l),(6,Sr v)] ?_
 refine Ji 7 (I (Qo (fun x=>decide (v=x)) l)) (Jh7 G a_l c_l l h_l v) ?_
 refine Jc [0,0] [(4,Bo (decide (Qo (fun x=>decide (v=x)) l ≥ 0)))] (Jd (Ja (Jk ?_)))
 refine Jl [0] [Bo (decide (Qo (fun x=>decide (v=x)) l ≥ 0))] (Jv (Jt.le_refl _) ?_)
 have hf_:(l.any (fun x=>decide (v=x)))=(decide (Qo (fun x=>decide (v=x)) l ≥ 0)):=by
  rw [Vm]
 · (try rw [hf_]);(simp only [JM];done)
theorem ZV (G:Jt) (a_l:Option Addr) (c_l:Nat) (l:List J1) (h_l:RS Qj G a_l c_l l) :QE Tryz.prog 59 #[Sl a_l l.length c_l] G [] (fun u G' L'=>∃ (a1:Option Addr) (c2:Nat) (r3:List Kq),u=Sl a1 l.length c2∧(J8 Qj G' a1 c2 l r3)∧L'=[r3]):=by
 refine JL Tryz.func59 8 [(0,Sl a_l l.length c_l)] rfl (fun w0 G0=>?_)
 refine Jg [0] [(0,Sl a_l l.length c_l)] (Je (Je (Jb ?_)))
 refine Jc [0] [(0,Sl a_l l.length c_l),(3,Sl a_l l.length c_l)] ?_
 refine VN 4 (Bo ((a_l).isNone)) (by intro w;cases a_l <;> kernel_rfl) ?_
 refine Jd (Ja ?_)
 refine Jo ((a_l).isNone) (fun h1=>?_) (fun h1=>?_)
 try simp only [BB] at h1
 refine Jg [0] [(2,Sl none 0 0)] (Jk (Jh ?_))
 refine W2 ?_
 refine Jj 0 ?_
 have hf1:l=[]:=by
  exact RS.isNil h_l h1
 refine Jl [0] [Sl none 0 0] (JY [[]] (.cons_cons _ .slnil) (Jt.le_refl _) ?_)
 rw [hf1]
 try dsimp only
 exact ⟨none,0,([]),rfl,(J8.none Qj _),rfl⟩
 try simp only [BB] at h1
 refine Jm (Ja (Je (Jb ?_)))
 refine KC 5 0 #[] 94 (fun b1=>?_)
 refine Jc [0] [(5,Sl (At b1 0) 0 0),(6,Sl a_l l.length c_l)] ?_
 refine Vc 7 94 0 (J8.of_lit (E:=Qj) (b:=b1) [] [] trivial (by simp)) h_l (fun a1 c1 r1 hr1=>?_)
 refine Jc [0] [(2,Sl a1 l.length c1)] (Jd (Ja (Jk ?_)))
 refine Jj 0 ?_
 have hf2:l=l:=by
  rfl
 refine Jl [0] [Sl a1 l.length c1] (JY [r1] (.cons_cons _ .slnil) (Jt.le_refl _) ?_)
 rw [hf2]
 try dsimp only
 exact ⟨a1,c1,r1,rfl,hr1,rfl⟩
theorem Jds (G:Jt) (a_l:Option Addr) (c_l:Nat) (l:List J1) (h_l:RS Qj G a_l c_l l) (k_f:FuncId) (caps_f:Array Value) (p_f:J1→Bool) (hk_f:Jak Tryz.prog k_f) (h_f:∀ (vs0:List Value) (x0:J1) (hx0:Qj.R G vs0 x0),QE Tryz.prog k_f (#[.agg vs0.toArray]++caps_f) G [] (fun u _ _=>u=Bo (p_f x0))) :QE Tryz.prog 194 #[Sl a_l l.length c_l,.func (.func k_f) #[] caps_f] G [] (fun u G' L'=>u=I (Qo p_f l)):=by
 refine JL Tryz.func194 19 [(0,Sl a_l l.length c_l),(1,.func (.func k_f) #[] caps_f)] rfl (fun w0 G0=>?_)
 refine Jg [0] [(0,Sl a_l l.length c_l),(1,.func (.func k_f) #[] caps_f)] (Je ?_)
 refine Jg [0,0,0] [(0,Sl a_l l.length c_l),(1,.func (.func k_f) #[] caps_f),(7,I (l.length:Int)),(8,I 0)] (Jy ?_)
 have hlm_h_l:l.length≤9223372036854775807:=Nat.le_trans (h_l).le (h_l).max
 refine Qb (σ:=Nat) (fun q_=>(q_≤l.length)∧((l.take q_).any p_f=false)) (fun q_=>[(0,Sl a_l l.length c_l),(1,.func (.func k_f) #[] caps_f),(7,I (l.length:Int)),(8,I (q_:Int))]) (fun q_=>G) (fun q_=>[]) (fun q_=>l.length-q_) 0 ⟨(by (try dsimp only);exact Nat.zero_le _),(by (try dsimp only);simp)⟩ (fun q_ hs=>?_)
 revert hs;revert q_;intro i hs
 obtain ⟨hi,hn⟩:=hs
 refine KJ (fr':=[(0,Sl a_l l.length c_l),(1,.func (.func k_f) #[] caps_f),(7,I (l.length:Int)),(8,I (i:Int))]) (L':=[]) rfl rfl ?_
 refine Jg [0] [(0,Sl a_l l.length c_l),(1,.func (.func k_f) #[] caps_f),(7,I (l.length:Int)),(8,I (i:Int)),(9,Bo (decide ((i:Int)<(l.length:Int))))] (Je ?_)
 refine Jo (decide ((i:Int)<(l.length:Int))) (fun h1=>?_) (fun h1=>?_)
 try simp only [BB] at h1
 refine Jm (Ja (Je (Jy ?_)))
 refine Jg [0,0] [(0,Sl a_l l.length c_l),(1,.func (.func k_f) #[] caps_f),(5,I (i:Int)),(7,I (l.length:Int)),(8,I (i:Int))] (Je (Jb ?_))
 refine Jc [0,0,0] [(0,Sl a_l l.length c_l),(1,.func (.func k_f) #[] caps_f),(5,I (i:Int)),(7,I (l.length:Int)),(8,I (i:Int)),(11,.func (.func k_f) #[] caps_f),(12,Sl a_l l.length c_l),(13,I (i:Int))] ?_
 obtain ⟨b1,o1,rfl⟩:=RS.addr h_l (k:=i) (by omega)
 obtain ⟨x1,hx1⟩:=Q8 (l:=l) (k:=i) (by omega)
 obtain ⟨_,⟨rfl,w1,w2⟩,hc1⟩:=RS.get h_l hx1
 refine Kh (b:=b1) (off:=o1) (len:=l.length) (cap:=c_l) (ik:=.i64) 14 94 2 i (by omega) ?_
 refine J9 15 94 (cs:=[Sr x1.name,Sr x1.value]) 0 (.agg #[Sr x1.name,Sr x1.value]) hc1 ?_
 refine Zk (k:=k_f) (caps:=caps_f) (args:=#[.agg #[Sr x1.name,Sr x1.value]]) 16 (Bo (p_f x1)) hk_f (h_f [Sr x1.name,Sr x1.value] x1 (⟨rfl,w1,w2⟩)) ?_
 refine Jd (Ja ?_)
 refine Jo (p_f x1) (fun h2=>?_) (fun h2=>?_)
 try simp only [BB] at h2
 refine Jg [0,0] [(4,I (i:Int))] (Jk (Js (Jh (QB (Js (Jh ?_))))))
 refine Jl [0] [I (i:Int)] (Jv (Jt.le_refl _) ?_)
 have hf_:(Qo p_f l)=(i:Int):=by
  exact YK hx1 (by simpa using h2) hn
 · (try rw [hf_]);(simp only [JM];done)
 try simp only [BB] at h2
 refine Jm (JK (Ja (Jb ?_)))
 refine Jc [0,0] [(0,Sl (At b1 o1) l.length c_l),(1,.func (.func k_f) #[] caps_f),(7,I (l.length:Int)),(8,I (IntKind.i64.wrap ((i:Int)+1)))] ?_
 have e1:IntKind.i64.wrap ((i:Int)+1)=(i:Int)+1:=IntWalk.i64_in _ (by omega)
 refine J2 (fr':=[(0,Sl (At b1 o1) l.length c_l),(1,.func (.func k_f) #[] caps_f),(7,I (l.length:Int)),(8,I ((i:Int)+1))]) (L':=[]) (by simp only [e1]) (by rfl) ?_
 clear e1
 refine Jd ?_
 exact Qd (i+1) ⟨(by omega),(Vl hx1 (by simpa using h2) hn)⟩ (by (try dsimp only);omega)
 try simp only [BB] at h1
 refine KU (J3 (Ke (JW (Ja ?_))))
 refine Jg [0] [(4,I (-1))] (Jk ?_)
 refine Jl [0] [I (-1)] (Jv (Jt.le_refl _) ?_)
 have hf_:(Qo p_f l)=(-1):=by
  exact Yr (by rw [List.take_of_length_le (by omega)] at hn;exact hn)
 · (try rw [hf_]);(simp only [JM];done)
theorem JiU (G:Jt) (a_l:Option Addr) (c_l:Nat) (l:List J1) (h_l:RS Qj G a_l c_l l) (k_f:FuncId) (caps_f:Array Value) (p_f:J1→Bool) (hk_f:Jak Tryz.prog k_f) (h_f:∀ (vs0:List Value) (x0:J1) (hx0:Qj.R G vs0 x0),QE Tryz.prog k_f (#[.agg vs0.toArray]++caps_f) G [] (fun u _ _=>u=Bo (p_f x0))) :QE Tryz.prog 206 #[Sl a_l l.length c_l,.func (.func k_f) #[] caps_f] G [] (fun u G' L'=>u=Bo (l.any p_f)):=by
 refine JL Tryz.func206 9 [(0,Sl a_l l.length c_l),(1,.func (.func k_f) #[] caps_f)] rfl (fun w0 G0=>?_)
 refine Jg [0] [(0,Sl a_l l.length c_l),(1,.func (.func k_f) #[] caps_f)] (Je (Jb ?_))
 refine Jc [0,0] [(5,Sl a_l l.length c_l),(6,.func (.func k_f) #[] caps_f)] ?_
 refine Ji 7 (I (Qo p_f l)) (Jds G a_l c_l l h_l k_f caps_f p_f hk_f h_f) ?_
 refine Jc [0,0] [(4,Bo (decide (Qo p_f l ≥ 0)))] (Jd (Ja (Jk ?_)))
 refine Jl [0] [Bo (decide (Qo p_f l ≥ 0))] (Jv (Jt.le_refl _) ?_)
 have hf_:(l.any p_f)=(decide (Qo p_f l ≥ 0)):=by
  rw [Vm]
 · (try rw [hf_]);(simp only [JM];done)
theorem JiV (G:Jt) (a_l:Option Addr) (c_l:Nat) (l:List Int) (h_l:RS EI G a_l c_l l) :QE Tryz.prog 72 #[Sl a_l l.length c_l] G [] (fun u G' L'=>∃ (a1:Option Addr) (c2:Nat) (r3:List Kq),u=Sl a1 l.length c2∧(J8 EI G' a1 c2 l r3)∧L'=[r3]):=by
 refine JL Tryz.func72 8 [(0,Sl a_l l.length c_l)] rfl (fun w0 G0=>?_)
 refine Jg [0] [(0,Sl a_l l.length c_l)] (Je (Je (Jb ?_)))
 refine Jc [0] [(0,Sl a_l l.length c_l),(3,Sl a_l l.length c_l)] ?_
 refine VN 4 (Bo ((a_l).isNone)) (by intro w;cases a_l <;> kernel_rfl) ?_
 refine Jd (Ja ?_)
 refine Jo ((a_l).isNone) (fun h1=>?_) (fun h1=>?_)
 try simp only [BB] at h1
 refine Jg [0] [(2,Sl none 0 0)] (Jk (Jh ?_))
 refine W2 ?_
 refine Jj 0 ?_
 have hf1:l=[]:=by
  exact RS.isNil h_l h1
 refine Jl [0] [Sl none 0 0] (JY [[]] (.cons_cons _ .slnil) (Jt.le_refl _) ?_)
 rw [hf1]
 try dsimp only
 exact ⟨none,0,([]),rfl,(J8.none EI _),rfl⟩
 try simp only [BB] at h1
 refine Jm (Ja (Je (Jb ?_)))
 refine KC 5 0 #[] 3 (fun b1=>?_)
 refine Jc [0] [(5,Sl (At b1 0) 0 0),(6,Sl a_l l.length c_l)] ?_
 refine Vc 7 3 0 (J8.of_lit (E:=EI) (b:=b1) [] [] trivial (by simp)) h_l (fun a1 c1 r1 hr1=>?_)
 refine Jc [0] [(2,Sl a1 l.length c1)] (Jd (Ja (Jk ?_)))
 refine Jj 0 ?_
 have hf2:l=l:=by
  rfl
 refine Jl [0] [Sl a1 l.length c1] (JY [r1] (.cons_cons _ .slnil) (Jt.le_refl _) ?_)
 rw [hf2]
 try dsimp only
 exact ⟨a1,c1,r1,rfl,hr1,rfl⟩
theorem Jka (G:Jt) (a_l:Option Addr) (c_l:Nat) (l:List Int) (h_l:RS EI G a_l c_l l) (k_f:FuncId) (caps_f:Array Value) (p_f:Int→Bool) (hk_f:Jak Tryz.prog k_f) (h_f:∀ (x0:Int) (hx0:rI x0),QE Tryz.prog k_f (#[I x0]++caps_f) G [] (fun u _ _=>u=Bo (p_f x0))) :QE Tryz.prog 148 #[Sl a_l l.length c_l,.func (.func k_f) #[] caps_f] G [] (fun u G' L'=>u=I (Qo p_f l)):=by
 refine JL Tryz.func148 19 [(0,Sl a_l l.length c_l),(1,.func (.func k_f) #[] caps_f)] rfl (fun w0 G0=>?_)
 refine Jg [0] [(0,Sl a_l l.length c_l),(1,.func (.func k_f) #[] caps_f)] (Je ?_)
 refine Jg [0,0,0] [(0,Sl a_l l.length c_l),(1,.func (.func k_f) #[] caps_f),(7,I (l.length:Int)),(8,I 0)] (Jy ?_)
 have hlm_h_l:l.length≤9223372036854775807:=Nat.le_trans (h_l).le (h_l).max
 refine Qb (σ:=Nat) (fun q_=>(q_≤l.length)∧((l.take q_).any p_f=false)) (fun q_=>[(0,Sl a_l l.length c_l),(1,.func (.func k_f) #[] caps_f),(7,I (l.length:Int)),(8,I (q_:Int))]) (fun q_=>G) (fun q_=>[]) (fun q_=>l.length-q_) 0 ⟨(by (try dsimp only);exact Nat.zero_le _),(by (try dsimp only);simp)⟩ (fun q_ hs=>?_)
 revert hs;revert q_;intro i hs
 obtain ⟨hi,hn⟩:=hs
 refine KJ (fr':=[(0,Sl a_l l.length c_l),(1,.func (.func k_f) #[] caps_f),(7,I (l.length:Int)),(8,I (i:Int))]) (L':=[]) rfl rfl ?_
 refine Jg [0] [(0,Sl a_l l.length c_l),(1,.func (.func k_f) #[] caps_f),(7,I (l.length:Int)),(8,I (i:Int)),(9,Bo (decide ((i:Int)<(l.length:Int))))] (Je ?_)
 refine Jo (decide ((i:Int)<(l.length:Int))) (fun h1=>?_) (fun h1=>?_)
 try simp only [BB] at h1
 refine Jm (Ja (Je (Jy ?_)))
 refine Jg [0,0] [(0,Sl a_l l.length c_l),(1,.func (.func k_f) #[] caps_f),(5,I (i:Int)),(7,I (l.length:Int)),(8,I (i:Int))] (Je (Jb ?_))
 refine Jc [0,0,0] [(0,Sl a_l l.length c_l),(1,.func (.func k_f) #[] caps_f),(5,I (i:Int)),(7,I (l.length:Int)),(8,I (i:Int)),(11,.func (.func k_f) #[] caps_f),(12,Sl a_l l.length c_l),(13,I (i:Int))] ?_
 obtain ⟨b1,o1,rfl⟩:=RS.addr h_l (k:=i) (by omega)
 obtain ⟨x1,hx1⟩:=Q8 (l:=l) (k:=i) (by omega)
 obtain ⟨_,⟨rfl,w1⟩,hc1⟩:=RS.get h_l hx1
 refine Kh (b:=b1) (off:=o1) (len:=l.length) (cap:=c_l) (ik:=.i64) 14 3 1 i (by omega) ?_
 refine J9 15 3 (cs:=[I x1]) 0 (I x1) hc1 ?_
 refine Zk (k:=k_f) (caps:=caps_f) (args:=#[I x1]) 16 (Bo (p_f x1)) hk_f (h_f x1 w1) ?_
 refine Jd (Ja ?_)
 refine Jo (p_f x1) (fun h2=>?_) (fun h2=>?_)
 try simp only [BB] at h2
 refine Jg [0,0] [(4,I (i:Int))] (Jk (Js (Jh (QB (Js (Jh ?_))))))
 refine Jl [0] [I (i:Int)] (Jv (Jt.le_refl _) ?_)
 have hf_:(Qo p_f l)=(i:Int):=by
  exact YK hx1 (by simpa using h2) hn
 · (try rw [hf_]);(simp only [JM];done)
 try simp only [BB] at h2
 refine Jm (JK (Ja (Jb ?_)))
 refine Jc [0,0] [(0,Sl (At b1 o1) l.length c_l),(1,.func (.func k_f) #[] caps_f),(7,I (l.length:Int)),(8,I (IntKind.i64.wrap ((i:Int)+1)))] ?_
 have e1:IntKind.i64.wrap ((i:Int)+1)=(i:Int)+1:=IntWalk.i64_in _ (by omega)
 refine J2 (fr':=[(0,Sl (At b1 o1) l.length c_l),(1,.func (.func k_f) #[] caps_f),(7,I (l.length:Int)),(8,I ((i:Int)+1))]) (L':=[]) (by simp only [e1]) (by rfl) ?_
 clear e1
 refine Jd ?_
 exact Qd (i+1) ⟨(by omega),(Vl hx1 (by simpa using h2) hn)⟩ (by (try dsimp only);omega)
 try simp only [BB] at h1
 refine KU (J3 (Ke (JW (Ja ?_))))
 refine Jg [0] [(4,I (-1))] (Jk ?_)
 refine Jl [0] [I (-1)] (Jv (Jt.le_refl _) ?_)
 have hf_:(Qo p_f l)=(-1):=by
  exact Yr (by rw [List.take_of_length_le (by omega)] at hn;exact hn)
 · (try rw [hf_]);(simp only [JM];done)
theorem Jlr (G:Jt) (a_l:Option Addr) (c_l:Nat) (l:List Int) (h_l:RS EI G a_l c_l l) (k_f:FuncId) (caps_f:Array Value) (p_f:Int→Bool) (hk_f:Jak Tryz.prog k_f) (h_f:∀ (x0:Int) (hx0:rI x0),QE Tryz.prog k_f (#[I x0]++caps_f) G [] (fun u _ _=>u=Bo (p_f x0))) :QE Tryz.prog 110 #[Sl a_l l.length c_l,.func (.func k_f) #[] caps_f] G [] (fun u G' L'=>u=Bo (l.any p_f)):=by
 refine JL Tryz.func110 9 [(0,Sl a_l l.length c_l),(1,.func (.func k_f) #[] caps_f)] rfl (fun w0 G0=>?_)
 refine Jg [0] [(0,Sl a_l l.length c_l),(1,.func (.func k_f) #[] caps_f)] (Je (Jb ?_))
 refine Jc [0,0] [(5,Sl a_l l.length c_l),(6,.func (.func k_f) #[] caps_f)] ?_
 refine Ji 7 (I (Qo p_f l)) (Jka G a_l c_l l h_l k_f caps_f p_f hk_f h_f) ?_
 refine Jc [0,0] [(4,Bo (decide (Qo p_f l ≥ 0)))] (Jd (Ja (Jk ?_)))
 refine Jl [0] [Bo (decide (Qo p_f l ≥ 0))] (Jv (Jt.le_refl _) ?_)
 have hf_:(l.any p_f)=(decide (Qo p_f l ≥ 0)):=by
  rw [Vm]
 · (try rw [hf_]);(simp only [JM];done)
theorem ZW (G:Jt) (a_l:Option Addr) (c_l:Nat) (l:List W6) (h_l:RS QO G a_l c_l l) :QE Tryz.prog 96 #[Sl a_l l.length c_l] G [] (fun u G' L'=>∃ (a1:Option Addr) (c2:Nat) (r3:List Kq),u=Sl a1 l.length c2∧(J8 QO G' a1 c2 l r3)∧L'=[r3]):=by
 refine JL Tryz.func96 8 [(0,Sl a_l l.length c_l)] rfl (fun w0 G0=>?_)
 refine Jg [0] [(0,Sl a_l l.length c_l)] (Je (Je (Jb ?_)))
 refine Jc [0] [(0,Sl a_l l.length c_l),(3,Sl a_l l.length c_l)] ?_
 refine VN 4 (Bo ((a_l).isNone)) (by intro w;cases a_l <;> kernel_rfl) ?_
 refine Jd (Ja ?_)
 refine Jo ((a_l).isNone) (fun h1=>?_) (fun h1=>?_)
 try simp only [BB] at h1
 refine Jg [0] [(2,Sl none 0 0)] (Jk (Jh ?_))
 refine W2 ?_
 refine Jj 0 ?_
 have hf1:l=[]:=by
  exact RS.isNil h_l h1
 refine Jl [0] [Sl none 0 0] (JY [[]] (.cons_cons _ .slnil) (Jt.le_refl _) ?_)
 rw [hf1]
 try dsimp only
 exact ⟨none,0,([]),rfl,(J8.none QO _),rfl⟩
 try simp only [BB] at h1
 refine Jm (Ja (Je (Jb ?_)))
 refine KC 5 0 #[] 83 (fun b1=>?_)
 refine Jc [0] [(5,Sl (At b1 0) 0 0),(6,Sl a_l l.length c_l)] ?_
 refine Vc 7 83 0 (J8.of_lit (E:=QO) (b:=b1) [] [] trivial (by simp)) h_l (fun a1 c1 r1 hr1=>?_)
 refine Jc [0] [(2,Sl a1 l.length c1)] (Jd (Ja (Jk ?_)))
 refine Jj 0 ?_
 have hf2:l=l:=by
  rfl
 refine Jl [0] [Sl a1 l.length c1] (JY [r1] (.cons_cons _ .slnil) (Jt.le_refl _) ?_)
 rw [hf2]
 try dsimp only
 exact ⟨a1,c1,r1,rfl,hr1,rfl⟩
theorem YB (G:Jt) (a_l:Option Addr) (c_l:Nat) (l:List JU) (h_l:RS KA G a_l c_l l) :QE Tryz.prog 97 #[Sl a_l l.length c_l] G [] (fun u G' L'=>∃ (a1:Option Addr) (c2:Nat) (r3:List Kq),u=Sl a1 l.length c2∧(J8 KA G' a1 c2 l r3)∧L'=[r3]):=by
 refine JL Tryz.func97 8 [(0,Sl a_l l.length c_l)] rfl (fun w0 G0=>?_)
 refine Jg [0] [(0,Sl a_l l.length c_l)] (Je (Je (Jb ?_)))
 refine Jc [0] [(0,Sl a_l l.length c_l),(3,Sl a_l l.length c_l)] ?_
 refine VN 4 (Bo ((a_l).isNone)) (by intro w;cases a_l <;> kernel_rfl) ?_
 refine Jd (Ja ?_)
 refine Jo ((a_l).isNone) (fun h1=>?_) (fun h1=>?_)
 try simp only [BB] at h1
 refine Jg [0] [(2,Sl none 0 0)] (Jk (Jh ?_))
 refine W2 ?_
 refine Jj 0 ?_
 have hf1:l=[]:=by
  exact RS.isNil h_l h1
 refine Jl [0] [Sl none 0 0] (JY [[]] (.cons_cons _ .slnil) (Jt.le_refl _) ?_)
 rw [hf1]
 try dsimp only
 exact ⟨none,0,([]),rfl,(J8.none KA _),rfl⟩
 try simp only [BB] at h1
 refine Jm (Ja (Je (Jb ?_)))
 refine KC 5 0 #[] 50 (fun b1=>?_)
 refine Jc [0] [(5,Sl (At b1 0) 0 0),(6,Sl a_l l.length c_l)] ?_
 refine Vc 7 50 0 (J8.of_lit (E:=KA) (b:=b1) [] [] trivial (by simp)) h_l (fun a1 c1 r1 hr1=>?_)
 refine Jc [0] [(2,Sl a1 l.length c1)] (Jd (Ja (Jk ?_)))
 refine Jj 0 ?_
 have hf2:l=l:=by
  rfl
 refine Jl [0] [Sl a1 l.length c1] (JY [r1] (.cons_cons _ .slnil) (Jt.le_refl _) ?_)
 rw [hf2]
 try dsimp only
 exact ⟨a1,c1,r1,rfl,hr1,rfl⟩
theorem Jf6 (G:Jt) (a_l:Option Addr) (c_l:Nat) (l:List JU) (h_l:RS KA G a_l c_l l) (k_f:FuncId) (caps_f:Array Value) (p_f:JU→Bool) (hk_f:Jak Tryz.prog k_f) (h_f:∀ (vs0:List Value) (x0:JU) (hx0:KA.R G vs0 x0),QE Tryz.prog k_f (#[.agg vs0.toArray]++caps_f) G [] (fun u _ _=>u=Bo (p_f x0))) :QE Tryz.prog 215 #[Sl a_l l.length c_l,.func (.func k_f) #[] caps_f] G [] (fun u G' L'=>u=I (Qo p_f l)):=by
 refine JL Tryz.func215 19 [(0,Sl a_l l.length c_l),(1,.func (.func k_f) #[] caps_f)] rfl (fun w0 G0=>?_)
 refine Jg [0] [(0,Sl a_l l.length c_l),(1,.func (.func k_f) #[] caps_f)] (Je ?_)
 refine Jg [0,0,0] [(0,Sl a_l l.length c_l),(1,.func (.func k_f) #[] caps_f),(7,I (l.length:Int)),(8,I 0)] (Jy ?_)
 have hlm_h_l:l.length≤9223372036854775807:=Nat.le_trans (h_l).le (h_l).max
 refine Qb (σ:=Nat) (fun q_=>(q_≤l.length)∧((l.take q_).any p_f=false)) (fun q_=>[(0,Sl a_l l.length c_l),(1,.func (.func k_f) #[] caps_f),(7,I (l.length:Int)),(8,I (q_:Int))]) (fun q_=>G) (fun q_=>[]) (fun q_=>l.length-q_) 0 ⟨(by (try dsimp only);exact Nat.zero_le _),(by (try dsimp only);simp)⟩ (fun q_ hs=>?_)
 revert hs;revert q_;intro i hs
 obtain ⟨hi,hn⟩:=hs
 refine KJ (fr':=[(0,Sl a_l l.length c_l),(1,.func (.func k_f) #[] caps_f),(7,I (l.length:Int)),(8,I (i:Int))]) (L':=[]) rfl rfl ?_
 refine Jg [0] [(0,Sl a_l l.length c_l),(1,.func (.func k_f) #[] caps_f),(7,I (l.length:Int)),(8,I (i:Int)),(9,Bo (decide ((i:Int)<(l.length:Int))))] (Je ?_)
 refine Jo (decide ((i:Int)<(l.length:Int))) (fun h1=>?_) (fun h1=>?_)
 try simp only [BB] at h1
 refine Jm (Ja (Je (Jy ?_)))
 refine Jg [0,0] [(0,Sl a_l l.length c_l),(1,.func (.func k_f) #[] caps_f),(5,I (i:Int)),(7,I (l.length:Int)),(8,I (i:Int))] (Je (Jb ?_))
 refine Jc [0,0,0] [(0,Sl a_l l.length c_l),(1,.func (.func k_f) #[] caps_f),(5,I (i:Int)),(7,I (l.length:Int)),(8,I (i:Int)),(11,.func (.func k_f) #[] caps_f),(12,Sl a_l l.length c_l),(13,I (i:Int))] ?_
 obtain ⟨b1,o1,rfl⟩:=RS.addr h_l (k:=i) (by omega)
 obtain ⟨x1,hx1⟩:=Q8 (l:=l) (k:=i) (by omega)
 obtain ⟨_,⟨rfl,w1,w2,w3,w4⟩,hc1⟩:=RS.get h_l hx1
 refine Kh (b:=b1) (off:=o1) (len:=l.length) (cap:=c_l) (ik:=.i64) 14 50 4 i (by omega) ?_
 refine J9 15 50 (cs:=[I x1.epoch,U x1.root,U x1.prev,I x1.at_]) 0 (.agg #[I x1.epoch,U x1.root,U x1.prev,I x1.at_]) hc1 ?_
 refine Zk (k:=k_f) (caps:=caps_f) (args:=#[.agg #[I x1.epoch,U x1.root,U x1.prev,I x1.at_]]) 16 (Bo (p_f x1)) hk_f (h_f [I x1.epoch,U x1.root,U x1.prev,I x1.at_] x1 (⟨rfl,w1,w2,w3,w4⟩)) ?_
 refine Jd (Ja ?_)
 refine Jo (p_f x1) (fun h2=>?_) (fun h2=>?_)
 try simp only [BB] at h2
 refine Jg [0,0] [(4,I (i:Int))] (Jk (Js (Jh (QB (Js (Jh ?_))))))
 refine Jl [0] [I (i:Int)] (Jv (Jt.le_refl _) ?_)
 have hf_:(Qo p_f l)=(i:Int):=by
  exact YK hx1 (by simpa using h2) hn
 · (try rw [hf_]);(simp only [JM];done)
 try simp only [BB] at h2
 refine Jm (JK (Ja (Jb ?_)))
 refine Jc [0,0] [(0,Sl (At b1 o1) l.length c_l),(1,.func (.func k_f) #[] caps_f),(7,I (l.length:Int)),(8,I (IntKind.i64.wrap ((i:Int)+1)))] ?_
 have e1:IntKind.i64.wrap ((i:Int)+1)=(i:Int)+1:=IntWalk.i64_in _ (by omega)
 refine J2 (fr':=[(0,Sl (At b1 o1) l.length c_l),(1,.func (.func k_f) #[] caps_f),(7,I (l.length:Int)),(8,I ((i:Int)+1))]) (L':=[]) (by simp only [e1]) (by rfl) ?_
 clear e1
 refine Jd ?_
 exact Qd (i+1) ⟨(by omega),(Vl hx1 (by simpa using h2) hn)⟩ (by (try dsimp only);omega)
 try simp only [BB] at h1
 refine KU (J3 (Ke (JW (Ja ?_))))
 refine Jg [0] [(4,I (-1))] (Jk ?_)
 refine Jl [0] [I (-1)] (Jv (Jt.le_refl _) ?_)
 have hf_:(Qo p_f l)=(-1):=by
  exact Yr (by rw [List.take_of_length_le (by omega)] at hn;exact hn)
 · (try rw [hf_]);(simp only [JM];done)
theorem Jdt (G:Jt) (a_l:Option Addr) (c_l:Nat) (l:List JU) (h_l:RS KA G a_l c_l l) (k_f:FuncId) (caps_f:Array Value) (p_f:JU→Bool) (hk_f:Jak Tryz.prog k_f) (h_f:∀ (vs0:List Value) (x0:JU) (hx0:KA.R G vs0 x0),QE Tryz.prog k_f (#[.agg vs0.toArray]++caps_f) G [] (fun u _ _=>u=Bo (p_f x0))) :QE Tryz.prog 204 #[Sl a_l l.length c_l,.func (.func k_f) #[] caps_f] G [] (fun u G' L'=>u=Bo (l.any p_f)):=by
 refine JL Tryz.func204 9 [(0,Sl a_l l.length c_l),(1,.func (.func k_f) #[] caps_f)] rfl (fun w0 G0=>?_)
 refine Jg [0] [(0,Sl a_l l.length c_l),(1,.func (.func k_f) #[] caps_f)] (Je (Jb ?_))
 refine Jc [0,0] [(5,Sl a_l l.length c_l),(6,.func (.func k_f) #[] caps_f)] ?_
 refine Ji 7 (I (Qo p_f l)) (Jf6 G a_l c_l l h_l k_f caps_f p_f hk_f h_f) ?_
 refine Jc [0,0] [(4,Bo (decide (Qo p_f l ≥ 0)))] (Jd (Ja (Jk ?_)))
 refine Jl [0] [Bo (decide (Qo p_f l ≥ 0))] (Jv (Jt.le_refl _) ?_)
 have hf_:(l.any p_f)=(decide (Qo p_f l ≥ 0)):=by
  rw [Vm]
 · (try rw [hf_]);(simp only [JM];done)
theorem JiW (G:Jt) (a_l:Option Addr) (c_l:Nat) (l:List Int) (h_l:RS EU G a_l c_l l) :QE Tryz.prog 149 #[Sl a_l l.length c_l] G [] (fun u G' L'=>∃ (a1:Option Addr) (c2:Nat) (r3:List Kq),u=Sl a1 l.length c2∧(J8 EU G' a1 c2 l r3)∧L'=[r3]):=by
 refine JL Tryz.func149 8 [(0,Sl a_l l.length c_l)] rfl (fun w0 G0=>?_)
 refine Jg [0] [(0,Sl a_l l.length c_l)] (Je (Je (Jb ?_)))
 refine Jc [0] [(0,Sl a_l l.length c_l),(3,Sl a_l l.length c_l)] ?_
 refine VN 4 (Bo ((a_l).isNone)) (by intro w;cases a_l <;> kernel_rfl) ?_
 refine Jd (Ja ?_)
 refine Jo ((a_l).isNone) (fun h1=>?_) (fun h1=>?_)
 try simp only [BB] at h1
 refine Jg [0] [(2,Sl none 0 0)] (Jk (Jh ?_))
 refine W2 ?_
 refine Jj 0 ?_
 have hf1:l=[]:=by
  exact RS.isNil h_l h1
 refine Jl [0] [Sl none 0 0] (JY [[]] (.cons_cons _ .slnil) (Jt.le_refl _) ?_)
 rw [hf1]
 try dsimp only
 exact ⟨none,0,([]),rfl,(J8.none EU _),rfl⟩
 try simp only [BB] at h1
 refine Jm (Ja (Je (Jb ?_)))
 refine KC 5 0 #[] 48 (fun b1=>?_)
 refine Jc [0] [(5,Sl (At b1 0) 0 0),(6,Sl a_l l.length c_l)] ?_
 refine Vc 7 48 0 (J8.of_lit (E:=EU) (b:=b1) [] [] trivial (by simp)) h_l (fun a1 c1 r1 hr1=>?_)
 refine Jc [0] [(2,Sl a1 l.length c1)] (Jd (Ja (Jk ?_)))
 refine Jj 0 ?_
 have hf2:l=l:=by
  rfl
 refine Jl [0] [Sl a1 l.length c1] (JY [r1] (.cons_cons _ .slnil) (Jt.le_refl _) ?_)
 rw [hf2]
 try dsimp only
 exact ⟨a1,c1,r1,rfl,hr1,rfl⟩
theorem Jkb (G:Jt) (a_l:Option Addr) (c_l:Nat) (l:List Int) (h_l:RS EU G a_l c_l l) (k_f:FuncId) (caps_f:Array Value) (p_f:Int→Bool) (hk_f:Jak Tryz.prog k_f) (h_f:∀ (x0:Int) (hx0:rU x0),QE Tryz.prog k_f (#[U x0]++caps_f) G [] (fun u _ _=>u=Bo (p_f x0))) :QE Tryz.prog 216 #[Sl a_l l.length c_l,.func (.func k_f) #[] caps_f] G [] (fun u G' L'=>u=I (Qo p_f l)):=by
 refine JL Tryz.func216 19 [(0,Sl a_l l.length c_l),(1,.func (.func k_f) #[] caps_f)] rfl (fun w0 G0=>?_)
 refine Jg [0] [(0,Sl a_l l.length c_l),(1,.func (.func k_f) #[] caps_f)] (Je ?_)
 refine Jg [0,0,0] [(0,Sl a_l l.length c_l),(1,.func (.func k_f) #[] caps_f),(7,I (l.length:Int)),(8,I 0)] (Jy ?_)
 have hlm_h_l:l.length≤9223372036854775807:=Nat.le_trans (h_l).le (h_l).max
 refine Qb (σ:=Nat) (fun q_=>(q_≤l.length)∧((l.take q_).any p_f=false)) (fun q_=>[(0,Sl a_l l.length c_l),(1,.func (.func k_f) #[] caps_f),(7,I (l.length:Int)),(8,I (q_:Int))]) (fun q_=>G) (fun q_=>[]) (fun q_=>l.length-q_) 0 ⟨(by (try dsimp only);exact Nat.zero_le _),(by (try dsimp only);simp)⟩ (fun q_ hs=>?_)
 revert hs;revert q_;intro i hs
 obtain ⟨hi,hn⟩:=hs
 refine KJ (fr':=[(0,Sl a_l l.length c_l),(1,.func (.func k_f) #[] caps_f),(7,I (l.length:Int)),(8,I (i:Int))]) (L':=[]) rfl rfl ?_
 refine Jg [0] [(0,Sl a_l l.length c_l),(1,.func (.func k_f) #[] caps_f),(7,I (l.length:Int)),(8,I (i:Int)),(9,Bo (decide ((i:Int)<(l.length:Int))))] (Je ?_)
 refine Jo (decide ((i:Int)<(l.length:Int))) (fun h1=>?_) (fun h1=>?_)
 try simp only [BB] at h1
 refine Jm (Ja (Je (Jy ?_)))
 refine Jg [0,0] [(0,Sl a_l l.length c_l),(1,.func (.func k_f) #[] caps_f),(5,I (i:Int)),(7,I (l.length:Int)),(8,I (i:Int))] (Je (Jb ?_))
 refine Jc [0,0,0] [(0,Sl a_l l.length c_l),(1,.func (.func k_f) #[] caps_f),(5,I (i:Int)),(7,I (l.length:Int)),(8,I (i:Int)),(11,.func (.func k_f) #[] caps_f),(12,Sl a_l l.length c_l),(13,I (i:Int))] ?_
 obtain ⟨b1,o1,rfl⟩:=RS.addr h_l (k:=i) (by omega)
 obtain ⟨x1,hx1⟩:=Q8 (l:=l) (k:=i) (by omega)
 obtain ⟨_,⟨rfl,w1⟩,hc1⟩:=RS.get h_l hx1
 refine Kh (b:=b1) (off:=o1) (len:=l.length) (cap:=c_l) (ik:=.i64) 14 48 1 i (by omega) ?_
 refine J9 15 48 (cs:=[U x1]) 0 (U x1) hc1 ?_
 refine Zk (k:=k_f) (caps:=caps_f) (args:=#[U x1]) 16 (Bo (p_f x1)) hk_f (h_f x1 w1) ?_
 refine Jd (Ja ?_)
 refine Jo (p_f x1) (fun h2=>?_) (fun h2=>?_)
 try simp only [BB] at h2
 refine Jg [0,0] [(4,I (i:Int))] (Jk (Js (Jh (QB (Js (Jh ?_))))))
 refine Jl [0] [I (i:Int)] (Jv (Jt.le_refl _) ?_)
 have hf_:(Qo p_f l)=(i:Int):=by
  exact YK hx1 (by simpa using h2) hn
 · (try rw [hf_]);(simp only [JM];done)
 try simp only [BB] at h2
 refine Jm (JK (Ja (Jb ?_)))
 refine Jc [0,0] [(0,Sl (At b1 o1) l.length c_l),(1,.func (.func k_f) #[] caps_f),(7,I (l.length:Int)),(8,I (IntKind.i64.wrap ((i:Int)+1)))] ?_
 have e1:IntKind.i64.wrap ((i:Int)+1)=(i:Int)+1:=IntWalk.i64_in _ (by omega)
 refine J2 (fr':=[(0,Sl (At b1 o1) l.length c_l),(1,.func (.func k_f) #[] caps_f),(7,I (l.length:Int)),(8,I ((i:Int)+1))]) (L':=[]) (by simp only [e1]) (by rfl) ?_
 clear e1
 refine Jd ?_
 exact Qd (i+1) ⟨(by omega),(Vl hx1 (by simpa using h2) hn)⟩ (by (try dsimp only);omega)
 try simp only [BB] at h1
 refine KU (J3 (Ke (JW (Ja ?_))))
 refine Jg [0] [(4,I (-1))] (Jk ?_)
 refine Jl [0] [I (-1)] (Jv (Jt.le_refl _) ?_)
 have hf_:(Qo p_f l)=(-1):=by
  exact Yr (by rw [List.take_of_length_le (by omega)] at hn;exact hn)
 · (try rw [hf_]);(simp only [JM];done)
theorem Jls (G:Jt) (a_l:Option Addr) (c_l:Nat) (l:List Int) (h_l:RS EU G a_l c_l l) (k_f:FuncId) (caps_f:Array Value) (p_f:Int→Bool) (hk_f:Jak Tryz.prog k_f) (h_f:∀ (x0:Int) (hx0:rU x0),QE Tryz.prog k_f (#[U x0]++caps_f) G [] (fun u _ _=>u=Bo (p_f x0))) :QE Tryz.prog 208 #[Sl a_l l.length c_l,.func (.func k_f) #[] caps_f] G [] (fun u G' L'=>u=Bo (l.any p_f)):=by
 refine JL Tryz.func208 9 [(0,Sl a_l l.length c_l),(1,.func (.func k_f) #[] caps_f)] rfl (fun w0 G0=>?_)
 refine Jg [0] [(0,Sl a_l l.length c_l),(1,.func (.func k_f) #[] caps_f)] (Je (Jb ?_))
 refine Jc [0,0] [(5,Sl a_l l.length c_l),(6,.func (.func k_f) #[] caps_f)] ?_
 refine Ji 7 (I (Qo p_f l)) (Jkb G a_l c_l l h_l k_f caps_f p_f hk_f h_f) ?_
 refine Jc [0,0] [(4,Bo (decide (Qo p_f l ≥ 0)))] (Jd (Ja (Jk ?_)))
 refine Jl [0] [Bo (decide (Qo p_f l ≥ 0))] (Jv (Jt.le_refl _) ?_)
 have hf_:(l.any p_f)=(decide (Qo p_f l ≥ 0)):=by
  rw [Vm]
 · (try rw [hf_]);(simp only [JM];done)
end Go.Proofs.YtnnlpbjdignhaaaGreatDoor
