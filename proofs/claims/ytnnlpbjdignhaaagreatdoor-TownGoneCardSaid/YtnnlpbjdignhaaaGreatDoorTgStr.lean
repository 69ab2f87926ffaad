import Derived.Test.YtnnlpbjdignhaaaGreatDoorTgTy
namespace Go.Proofs.YtnnlpbjdignhaaaGreatDoor
open Go.Tx
set_option linter.unusedVariables false
set_option linter.unusedSimpArgs false
def Z6 (y:Int):UInt8:=UInt8.ofNat y.toNat
theorem u8w (x:Int):0≤IntKind.u8.wrap x∧IntKind.u8.wrap x<256:=by rw [JfO];omega
theorem Jk7 {y:Int} (h:0≤y∧y<256):y=((Z6 y).toNat:Int):=by
 unfold Z6;rw [UInt8.toNat_ofNat'];omega
theorem JjN {p:Int→Bool} {s:List UInt8} {pos:Nat} (hp:pos<s.length) (h:p ((Utf8.decode (B s) pos).1:Int)=false) :
  Jax p s (s.length-(pos+(Utf8.decode (B s) pos).2)) (pos+(Utf8.decode (B s) pos).2)=Jax p s (s.length-pos) pos:=by
 have hw:=Jk4 s pos
 rw [JiY _ (s.length-pos-1) _ (by omega) (by omega)]
 obtain ⟨n,hn⟩:∃ n,s.length-pos=n+1:=⟨s.length-pos-1,by omega⟩
 rw [hn]
 show _=(if pos<s.length then (if p _ then (pos:Int) else Jax p s n (pos+(Utf8.decode (B s) pos).2)) else -1)
 rw [if_pos hp,if_neg (by rw [h];simp)]
 rfl
theorem JhW {p:Int→Bool} {s:List UInt8} {pos:Nat} (hp:pos<s.length) (h:p ((Utf8.decode (B s) pos).1:Int)=true):Jax p s (s.length-pos) pos=(pos:Int):=by
 obtain ⟨n,hn⟩:∃ n,s.length-pos=n+1:=⟨s.length-pos-1,by omega⟩
 rw [hn];unfold Jax;rw [if_pos hp,if_pos h]
theorem Jk8 {p:Int→Bool} {s:List UInt8} {n pos:Nat} (hp:¬ pos<s.length):Jax p s n pos=-1:=by
 cases n with
 | zero=>rfl
 | succ n=>unfold Jax;rw [if_neg hp]
def YT (s:List UInt8) (p:Int→Bool) (t:Bool):Int:=Jax (fun r=>p r == t) s s.length 0
def Vd (s:List UInt8) (p:Int→Bool):Int:=YT s p true
def Jaz (s:List UInt8) (p:Int→Bool):Bool:=decide (Vd s p ≥ 0)
theorem JhX {s:List UInt8} {p:Int→Bool} (hp:∀ r:Int,128≤r→p r=true):Jaz s p=s.any fun b=>p (b.toNat:Int):=by
 unfold Jaz Vd YT
 have:=JgO (p:=fun r=>p r == true) (fun r h=>by simp [hp r h]) (l:=s) s.length 0 (by omega)
 simpa using this
def JaQ (r:Int):Bool:=decide (97≤r∧r≤122) || decide (48≤r∧r≤57)
def Va (r:Int):Bool:=!JaQ r
def Kt (s:List UInt8):Bool:=decide (1≤s.length) && decide (s.length≤12) && !Jaz s Va
theorem JfU {s:List UInt8}:Kt s=true ↔ 1≤s.length∧s.length≤12∧∀ b∈s,JaQ (b.toNat:Int)=true:=by
 unfold Kt
 rw [JhX (fun r h=>by unfold Va JaQ;simp;omega)]
 simp [Va,and_assoc]
def putC (p:List UInt8):List UInt8:=Z6 (IntKind.u8.wrap ((p.length:Int).fdiv (2 ^ 8)))::Z6 (IntKind.u8.wrap (p.length:Int))::p
def JeB (l:List (List UInt8)):List UInt8:=(l.map putC).flatten
def Jb2:Nat→List (List UInt8)→Bool
 | _,[]=>true
 | n,p::l=>decide (n+2+p.length≤600) && Jb2 (n+2+p.length) l
theorem JjO {l:List (List UInt8)} {i:Nat} {x:List UInt8} (h:l[i]? = some x):((JeB (l.take i)++[Z6 (IntKind.u8.wrap ((x.length:Int).fdiv (2 ^ 8)))])++[Z6 (IntKind.u8.wrap (x.length:Int))])++x=JeB (l.take (i+1)):=by
 rw [List.take_add_one,h];simp [JeB,putC]
theorem JhY {l:List (List UInt8)} {i n:Nat} {x:List UInt8} (h:l[i]? = some x) (hn:n+2+x.length≤600):Jb2 n (l.drop i)=Jb2 (((n+1)+1)+x.length) (l.drop (i+1)):=by
 obtain ⟨hi,rfl⟩:=List.getElem?_eq_some_iff.1 h
 rw [List.drop_eq_getElem_cons hi]
 show (decide _ && _)=_
 rw [decide_eq_true hn];rfl
theorem Jk9 {l:List (List UInt8)} {i n:Nat} {x:List UInt8} (h:l[i]? = some x) (hn:600<n+2+x.length):Jb2 n (l.drop i)=false:=by
 obtain ⟨hi,rfl⟩:=List.getElem?_eq_some_iff.1 h
 rw [List.drop_eq_getElem_cons hi]
 show (decide _ && _)=_
 rw [decide_eq_false (by omega)];rfl
def YD (l:List (List UInt8)):List UInt8×Int:=if 60<l.length then ([],2) else if Jb2 0 l then (JeB l,0) else ([],2)
theorem Jfk (G:Jt) (b:Nat) (A:Value) (a:Option Addr) (n c:Nat) (hA:A=.pointer none∨A=Pt b 0):JaY Tryz.prog 159 #[Pt b 0] G [[Yj 213 b 0 [A,Sl a n c]]] (fun u G' L'=>u=.tuple #[]∧L'=[[Yj 213 b 0 [Pt b 0,Sl a n c]]]):=by
 rcases hA with rfl | rfl
 intro Lr
 refine JK Tryz.func159 20 [(0,Pt b 0)] rfl (fun w0 G0=>?_)
 show TC _ _ _ _ _ ([Yj 213 b 0 [.pointer none,Sl a n c]]::Lr)
 refine Jg [0,0,0,2,0] [(0,Pt b 0),(6,Bo true)] (JZ (Jb (Jd [0,0] [(7,Pt b 0),(8,Pt b 0)] ?_)))
 refine JgN (cs:=[.pointer none,Sl a n c]) 9 0 213 213 true ?_
 refine Jk3 (f:=185) (args:=#[Pt b 0]) 10 (Pt b 0) (fun w=>by rw [run_callFunc_extern (e:=Extern.AbiNoEscape.same) Tryz.func185 (by kernel_rfl) (by kernel_rfl) (by kernel_rfl) (by kernel_rfl)];rfl) ?_
 refine JgN (cs:=[.pointer none,Sl a n c]) 11 0 213 213 false ?_
 exact Kd [0,0,3] [] ([Yj 213 b 0 [Pt b 0,Sl a n c]]::Lr) (Jc (Zv [] [] (Q3 (Lr:=Lr) [[Yj 213 b 0 [Pt b 0,Sl a n c]]] (.cons_cons _ (List.Sublist.refl _)) (Jt.le_refl _) (⟨rfl,rfl⟩))))
 intro Lr
 refine JK Tryz.func159 20 [(0,Pt b 0)] rfl (fun w0 G0=>?_)
 show TC _ _ _ _ _ ([Yj 213 b 0 [Pt b 0,Sl a n c]]::Lr)
 exact Jg [0,0,0,2,0] [(0,Pt b 0),(6,Bo false)] (Qw (Je (Jb (Jd [0,0,0,2,0] [(6,Bo false),(17,Pt b 0),(18,Pt b 0)] (JhT 19 (b:=b) (o':=0) (eq:=false) (Jc (Ja (Qw (Jn (Zv [] [] (Q3 (Lr:=Lr) [[Yj 213 b 0 [Pt b 0,Sl a n c]]] (.cons_cons _ (List.Sublist.refl _)) (Jt.le_refl _) (⟨rfl,rfl⟩))))))))))))
theorem Jla (G:Jt) (b:Nat) (A:Value) (a:Option Addr) (c:Nat) (l:List UInt8) (r:List Ks) (hb:Jaw 5 a c l r) (hA:A=.pointer none∨A=Pt b 0):JaY Tryz.prog 126 #[Pt b 0] G [[Yj 213 b 0 [A,Sl a l.length c]],r] (fun u G' L'=>u=I (l.length:Int)∧L'=[[Yj 213 b 0 [A,Sl a l.length c]],r]):=by
 intro Lr
 refine JK Tryz.func126 8 [(0,Pt b 0)] rfl (fun w0 G0=>?_)
 show TC _ _ _ _ _ ([Yj 213 b 0 [A,Sl a l.length c]]::r::Lr)
 exact Jg [0] [(0,Pt b 0)] (Jg [0,0,0,2,0,0] [(2,I (l.length:Int))] (Jk (Jl [0] [I (l.length:Int)] (Q3 (Lr:=Lr) [[Yj 213 b 0 [A,Sl a l.length c]],r] (.cons_cons _ (.cons_cons _ (List.Sublist.refl _))) (Jt.le_refl _) (⟨rfl,rfl⟩)))))
theorem Ja0 (G:Jt) (b:Nat) (A:Value) (a:Option Addr) (c:Nat) (l:List UInt8) (r:List Ks) (hb:Jaw 5 a c l r) (hA:A=.pointer none∨A=Pt b 0) (y:Int) (hy:0≤y∧y<256) (hl:l.length+1≤140737488355328):JaY Tryz.prog 127 #[Pt b 0,Y y] G [[Yj 213 b 0 [A,Sl a l.length c]],r] (fun u G' L'=>∃ a' c' r',u=.nilIface∧Jaw 5 a' c' (l++[Z6 y]) r'∧L'=[[Yj 213 b 0 [Pt b 0,Sl a' (l++[Z6 y]).length c']],r']):=by
 intro Lr
 refine JK Tryz.func127 17 [(0,Pt b 0),(1,Y y)] rfl (fun w0 G0=>?_)
 show TC _ _ _ _ _ ([Yj 213 b 0 [A,Sl a l.length c]]::r::Lr)
 refine Jg [0] [(0,Pt b 0),(1,Y y)] (Je (Jb (Jd [0] [(0,Pt b 0),(1,Y y),(5,Pt b 0)] (JG 0 (Qs (Ls:=[[Yj 213 b 0 [A,Sl a l.length c]]]) (Lr:=(r::Lr)) 6 (Jfk G b A a l.length c hA) (fun v G1 L1 hl1 hp=>?_))))))
 obtain ⟨rfl,rfl⟩:=hp
 exact Jc (Ja (Je (Jb (Jd [0,0,0,0,2,0] [(7,Pt b 0),(11,Sl a l.length c),(12,Y y)] (KG 13 1 #[Y y] 5 (fun b1=>JjF (b:=b1) 14 5 2 0 (Z6 y) y (Jk7 ‹_›) hb (by omega) (fun a1 c1 r1 hb1=>Kd [0,0,5] [] ([Sg b1 0 [Y y]]::[Yj 213 b 0 [Pt b 0,Sl a1 ((l++[Z6 y]).length) c1]]::r1::Lr) (Jc (Ja (Jg [0] [(4,.nilIface)] (Jk (Jl [0] [.nilIface] (Q3 (Lr:=Lr) [[Yj 213 b 0 [Pt b 0,Sl a1 ((l++[Z6 y]).length) c1]],r1] (.cons _ (.cons_cons _ (.cons_cons _ (List.Sublist.refl _)))) hl1 (⟨a1,c1,r1,rfl,hb1,rfl⟩))))))))))))))
theorem JcD (G:Jt) (b:Nat) (A:Value) (a:Option Addr) (c:Nat) (l:List UInt8) (r:List Ks) (hb:Jaw 5 a c l r) (hA:A=.pointer none∨A=Pt b 0) (s:List UInt8) (hl:l.length+s.length≤140737488355328):JaY Tryz.prog 128 #[Pt b 0,Sr s] G [[Yj 213 b 0 [A,Sl a l.length c]],r] (fun u G' L'=>∃ a' c' r',u=.tuple #[I (s.length:Int),.nilIface]∧Jaw 5 a' c' (l++s) r'∧L'=[[Yj 213 b 0 [Pt b 0,Sl a' (l++s).length c']],r']):=by
 intro Lr
 refine JK Tryz.func128 19 [(0,Pt b 0),(1,Sr s)] rfl (fun w0 G0=>?_)
 show TC _ _ _ _ _ ([Yj 213 b 0 [A,Sl a l.length c]]::r::Lr)
 refine Jg [0,0] [(0,Pt b 0),(1,Sr s)] (Je (Jb (Jd [0] [(0,Pt b 0),(1,Sr s),(6,Pt b 0)] (JG 0 (Qs (Ls:=[[Yj 213 b 0 [A,Sl a l.length c]]]) (Lr:=(r::Lr)) 7 (Jfk G b A a l.length c hA) (fun v G1 L1 hl1 hp=>?_))))))
 obtain ⟨rfl,rfl⟩:=hp
 exact Jc (Ja (Je (Jb (Jd [0,0,0,0,2,0] [(1,Sr s),(8,Pt b 0),(12,Sl a l.length c),(13,Sr s)] (JjE (s:=s) 14 5 1 hb (by omega) (fun a1 c1 r1 hb1=>Kd [0,0,3] [(1,Sr s)] ([Yj 213 b 0 [Pt b 0,Sl a1 ((l++s).length) c1]]::r1::Lr) (Jc (Ja (Jg [0,0,0,0] [(4,I ((s).length:Int)),(5,.nilIface)] (Jk (Jl [0,0] [I ((s).length:Int),.nilIface] (Q3 (Lr:=Lr) [[Yj 213 b 0 [Pt b 0,Sl a1 ((l++s).length) c1]],r1] (.cons_cons _ (.cons_cons _ (List.Sublist.refl _))) hl1 (⟨a1,c1,r1,rfl,hb1,rfl⟩)))))))))))))
theorem JgR (G:Jt) (b:Nat) (A:Value) (a:Option Addr) (c:Nat) (l:List UInt8) (r:List Ks) (hb:Jaw 5 a c l r) (hA:A=.pointer none∨A=Pt b 0):JaY Tryz.prog 129 #[Pt b 0] G [[Yj 213 b 0 [A,Sl a l.length c]],r] (fun u G' L'=>u=Sr l∧L'=[[Yj 213 b 0 [A,Sl a l.length c]],[]]):=by
 intro Lr
 refine JK Tryz.func129 14 [(0,Pt b 0)] rfl (fun w0 G0=>?_)
 show TC _ _ _ _ _ ([Yj 213 b 0 [A,Sl a l.length c]]::r::Lr)
 refine Jg [0] [(0,Pt b 0)] (Je (KA [10] (Ws [(0,Pt b 0),(1,Pt b 0),(2,Pt b 1),(3,Sl a l.length c),(4,Jfh a),(5,Pt b 0),(6,Pt b 0),(7,Pt b 1),(8,Sl a l.length c),(9,I (l.length:Int))] (J2 [] [(0,0),(1,0),(2,0),(3,2),(5,0),(6,0),(7,0),(8,2),(9,0)] [4] [10] (List.forall_mem_cons.2 ⟨?_,List.forall_mem_nil _⟩) (List.forall_mem_cons.2 ⟨?_,List.forall_mem_nil _⟩)))))
 refine Jr 4 7 (Jfh a) [(6,Sl a l.length c)] (fun X=>?_)
 exact JkZ 7 hb Jp
 refine JT 10 [(7,Jfh a),(12,I (l.length:Int))] (fun X=>?_)
 exact JjG (e:=5) 13 1 hb (JX [(10,Sr l),(11,Sr l)] (Kz [0,1,2,3,4,5,6,7,8,9] [(11,0)] [] [(2,Sr l)] (List.forall_mem_nil _) (Ja (Jk (Jl [0] [Sr l] (Q3 (Lr:=Lr) [[Yj 213 b 0 [A,Sl a l.length c]],[]] (.cons_cons _ (.cons_cons _ (List.Sublist.refl _))) (Jt.le_refl _) (⟨rfl,rfl⟩)))))))
theorem JgS (G:Jt) (s:List UInt8) (k_f:FuncId) (caps_f:Array Value) (p_f:Int→Bool) (hk_f:VV Tryz.prog k_f) (h_f:∀ (x0:Int),QI Tryz.prog k_f (#[.int .i32 x0]++caps_f) G [] (fun u _ _=>u=Bo (p_f x0))) (t:Bool) :QI Tryz.prog 156 #[Sr s,.func (.func k_f) #[] caps_f,Bo t] G [] (fun u G' L'=>u=I (YT s p_f t)):=by
 refine JK Tryz.func156 21 [(0,Sr s),(1,.func (.func k_f) #[] caps_f),(2,Bo t)] rfl (fun w0 G0=>?_)
 refine Jg [0] [(0,Sr s),(1,.func (.func k_f) #[] caps_f),(2,Bo t)] (Je (Je (Jb (Jd [0] [(1,.func (.func k_f) #[] caps_f),(2,Bo t),(9,Sr s)] (JhS (l:=s) 10 (fun b1=>Jc (Ja (Jz ?_))))))))
 refine Qe (σ:=Nat) (fun q_=>(Jax (fun r=>p_f r == t) s (s.length-q_) q_=Jax (fun r=>p_f r == t) s s.length 0)) (fun q_=>[(1,.func (.func k_f) #[] caps_f),(2,Bo t),(10,Pt b1 0)]) (fun q_=>G) (fun q_=>[[Ob b1 (.stringIter (B s) q_)]]) (fun q_=>s.length-q_) 0 rfl (fun q_ hs=>?_)
 revert hs;revert q_;intro pos hs
 have hn:=hs
 refine KP (fr':=[(1,.func (.func k_f) #[] caps_f),(2,Bo t),(10,Pt b1 0)]) (L':=[[Ob b1 (.stringIter (B s) pos)]]) rfl rfl (Je (Jb (JjH (b:=b1) (pos:=pos) (l:=s) 11 0 (fun hp1=>?_) (fun hp1=>?_))))
 refine Jd [0] [(1,.func (.func k_f) #[] caps_f),(2,Bo t),(10,Pt b1 0),(11,.tuple #[Bo true,I (pos:Int),.int .i32 ((Utf8.decode (B s) pos).1:Int)]),(12,Bo true)] (Jc (Ja (Je (JZ (Jn (Ja (Jz (Jg [0,0,0,0] [(1,.func (.func k_f) #[] caps_f),(2,Bo t),(7,I (pos:Int)),(8,.int .i32 ((Utf8.decode (B s) pos).1:Int)),(10,Pt b1 0)] (Je (Jb (Jd [0,0] [(1,.func (.func k_f) #[] caps_f),(2,Bo t),(7,I (pos:Int)),(10,Pt b1 0),(15,.func (.func k_f) #[] caps_f),(16,.int .i32 ((Utf8.decode (B s) pos).1:Int))] (W4 (k:=k_f) (caps:=caps_f) (args:=#[.int .i32 ((Utf8.decode (B s) pos).1:Int)]) 17 (Bo (p_f ((Utf8.decode (B s) pos).1:Int))) hk_f (h_f ((Utf8.decode (B s) pos).1:Int)) (Jd [0,0] [(1,.func (.func k_f) #[] caps_f),(2,Bo t),(7,I (pos:Int)),(10,Pt b1 0),(19,Bo ((p_f ((Utf8.decode (B s) pos).1:Int)) == t))] (Jc (Ja (Jo ((p_f ((Utf8.decode (B s) pos).1:Int)) == t) (fun h1=>?_) (fun h1=>?_)))))))))))))))))
 try simp only [BB] at h1
 refine Jg [0,0] [(6,I (pos:Int))] (Jk (Js (QD (Js (Jh (Jl [0] [I (pos:Int)] (Jv (Jt.le_refl _) ?_)))))))
 have hf_:(YT s p_f t)=(pos:Int):=by
  unfold YT;rw [← hn];exact JhW (p:=(fun r=>p_f r == t)) hp1 (by simpa using h1)
 · (try rw [hf_]);(simp only [JM];done)
 try simp only [BB] at h1
 exact Jn (JN (Qh (pos+(Utf8.decode (B s) pos).2) (by rw [← hn];exact JjN (p:=(fun r=>p_f r == t)) hp1 (by simpa using h1)) (by have:=Jk4 s pos;(try dsimp only);omega)))
 refine Jd [0] [(1,.func (.func k_f) #[] caps_f),(2,Bo t),(10,Pt b1 0),(11,.tuple #[Bo false]),(12,Bo false)] (Jc (Ja (Je (Qw (K2 (J3 (Kf (JV (Ja (Jg [0] [(6,I (-1))] (Jk (Jl [0] [I (-1)] (Jv (Jt.le_refl _) ?_)))))))))))))
 have hf_:(YT s p_f t)=(-1):=by
  unfold YT;rw [← hn];exact Jk8 hp1
 · (try rw [hf_]);(simp only [JM];done)
theorem JfV (G:Jt) (s:List UInt8) (k_f:FuncId) (caps_f:Array Value) (p_f:Int→Bool) (hk_f:VV Tryz.prog k_f) (h_f:∀ (x0:Int),QI Tryz.prog k_f (#[.int .i32 x0]++caps_f) G [] (fun u _ _=>u=Bo (p_f x0))) :QI Tryz.prog 120 #[Sr s,.func (.func k_f) #[] caps_f] G [] (fun u G' L'=>u=I (Vd s p_f)):=by
 refine JK Tryz.func120 8 [(0,Sr s),(1,.func (.func k_f) #[] caps_f)] rfl (fun w0 G0=>?_)
 refine Jg [0] [(0,Sr s),(1,.func (.func k_f) #[] caps_f)] (Je (Jb (Jd [0,0] [(5,Sr s),(6,.func (.func k_f) #[] caps_f)] (Ji 7 (I (YT s p_f true)) (JgS G s k_f caps_f p_f hk_f h_f true) (Jd [0] [(4,I (YT s p_f true))] (Jc (Ja (Jk (Jl [0] [I (YT s p_f true)] (Jv (Jt.le_refl _) ?_))))))))))
 have hf_:(Vd s p_f)=(YT s p_f true):=by
  rfl
 · (try rw [hf_]);(simp only [JM];done)
theorem JhZ (G:Jt) (s:List UInt8) (k_f:FuncId) (caps_f:Array Value) (p_f:Int→Bool) (hk_f:VV Tryz.prog k_f) (h_f:∀ (x0:Int),QI Tryz.prog k_f (#[.int .i32 x0]++caps_f) G [] (fun u _ _=>u=Bo (p_f x0))) :QI Tryz.prog 82 #[Sr s,.func (.func k_f) #[] caps_f] G [] (fun u G' L'=>u=Bo (Jaz s p_f)):=by
 refine JK Tryz.func82 9 [(0,Sr s),(1,.func (.func k_f) #[] caps_f)] rfl (fun w0 G0=>?_)
 refine Jg [0] [(0,Sr s),(1,.func (.func k_f) #[] caps_f)] (Je (Jb (Jd [0,0] [(5,Sr s),(6,.func (.func k_f) #[] caps_f)] (Ji 7 (I (Vd s p_f)) (JfV G s k_f caps_f p_f hk_f h_f) (Jd [0,0] [(4,Bo (decide (Vd s p_f ≥ 0)))] (Jc (Ja (Jk (Jl [0] [Bo (decide (Vd s p_f ≥ 0))] (Jv (Jt.le_refl _) ?_))))))))))
 have hf_:(Jaz s p_f)=(decide (Vd s p_f ≥ 0)):=by
  rfl
 · (try rw [hf_]);(simp only [JM];done)
theorem JjP (G:Jt) (r:Int) :QI Tryz.prog 81 #[.int .i32 r] G [] (fun u G' L'=>u=Bo (JaQ r)):=by
 refine JK Tryz.func81 17 [(0,.int .i32 r)] rfl (fun w0 G0=>?_)
 refine Jg [0] [(0,.int .i32 r)] (Je (Jb (Jd [0,0,0] [(0,.int .i32 r),(5,Bo (decide (r ≥ 97)))] (KD (decide (r ≥ 97)) (fun bb=>[(0,.int .i32 r),(5,Bo bb)]) [0,0,0] [1,1,0] (fun bb=>[(0,.int .i32 r),(8,Bo (bb && (decide (r≤122))))]) (Jd [0] [(0,.int .i32 r),(9,Bo ((decide (r ≥ 97)) && (decide (r≤122))))] (We (fun bb=>[(0,.int .i32 r),(9,Bo bb)]) ((decide (r ≥ 97)) && (decide (r≤122))) (fun h1=>?_) (fun h1=>?_)))))))
 try simp only [BB] at h1
 refine Jd [1,1,1,1,1,1,0,0] [(2,Bo true)] (Jc (Ja (Jk (Jl [0] [Bo true] (Jv (Jt.le_refl _) ?_)))))
 have hf_:(JaQ r)=true:=by
  rw [Bool.eq_iff_iff];unfold JaQ;simp;omega
 · (try rw [hf_]);(simp only [JM];done)
 try simp only [BB] at h1
 refine Jd [0,0,0] [(0,.int .i32 r),(9,Bo false),(12,Bo (decide (r ≥ 48)))] (KD (decide (r ≥ 48)) (fun bb=>[(0,.int .i32 r),(9,Bo false),(12,Bo bb)]) [0,0,0] [1,1,0] (fun bb=>[(9,Bo false),(15,Bo (bb && (decide (r≤57))))]) (Jd [0,0] [(2,Bo ((decide (r ≥ 48)) && (decide (r≤57))))] (Jc (Ja (Jk (Jl [0] [Bo ((decide (r ≥ 48)) && (decide (r≤57)))] (Jv (Jt.le_refl _) ?_)))))))
 have hf_:(JaQ r)=((decide (r ≥ 48)) && (decide (r≤57))):=by
  rw [Bool.eq_iff_iff];unfold JaQ;simp;omega
 · (try rw [hf_]);(simp only [JM];done)
theorem JgT (G:Jt) (r:Int) (b_i:Nat) (hz_i:∀ j v,([.func (.func 81) #[] #[]]:List Value)[j]? = some v→G b_i (0+j)=some v) :QI Tryz.prog 83 #[.int .i32 r,Pt b_i 0] G [] (fun u G' L'=>u=Bo (Va r)):=by
 refine JK Tryz.func83 8 [(0,.int .i32 r),(1,Pt b_i 0)] rfl (fun w0 G0=>?_)
 refine Jg [0] [(0,.int .i32 r),(1,Pt b_i 0)] (Je (Jb (Ka (o':=0) 4 158 (cs:=[.func (.func 81) #[] #[]]) 0 (.func (.func 81) #[] #[]) hz_i (Jd [0] [(4,.func (.func 81) #[] #[]),(5,.int .i32 r)] (Ji 6 (Bo (JaQ r)) (JjP G r) (Jd [0,0] [(3,Bo (!(JaQ r)))] (Jc (Ja (Jk (Jl [0] [Bo (!(JaQ r))] (Jv (Jt.le_refl _) ?_)))))))))))
 have hf_:(Va r)=(!(JaQ r)):=by
  rfl
 · (try rw [hf_]);(simp only [JM];done)
theorem Zm (G:Jt) (s:List UInt8) :QI Tryz.prog 41 #[Sr s] G [] (fun u G' L'=>u=Bo (Kt s)):=by
 refine JK Tryz.func41 18 [(0,Sr s)] rfl (fun w0 G0=>?_)
 refine Jg [0] [(0,Sr s)] (Je (Jb (Ju 3 #[.nilFunc] 158 (fun b1=>Kd [3] [(0,Sr s),(3,Pt b1 0)] [[Sg b1 0 [.func (.func 81) #[] #[]]]] (Jc (Ja (Je (Jb (Jd [0,0,0,0] [(0,Sr s),(3,Pt b1 0),(7,Bo (decide (((s).length:Int) ≥ 1)))] (KD (decide (((s).length:Int) ≥ 1)) (fun bb=>[(0,Sr s),(3,Pt b1 0),(7,Bo bb)]) [0,0,0,0] [1,1,1,0] (fun bb=>[(0,Sr s),(3,Pt b1 0),(11,Bo (bb && (decide (((s).length:Int)≤12))))]) (Jd [0] [(0,Sr s),(3,Pt b1 0),(12,Bo ((decide (((s).length:Int) ≥ 1)) && (decide (((s).length:Int)≤12))))] (We (fun bb=>[(0,Sr s),(3,Pt b1 0),(12,Bo bb)]) ((decide (((s).length:Int) ≥ 1)) && (decide (((s).length:Int)≤12))) (fun h1=>?_) (fun h1=>?_)))))))))))))
 try simp only [BB] at h1
 refine Jd [0,0] [(12,Bo true),(13,Sr s),(14,.func (.func 83) #[] #[Pt b1 0])] (QS (b:=b1) (o:=0) (cs:=[.func (.func 81) #[] #[]]) 0 (fun G1 hl1 hz1=>Ji 15 (Bo (Jaz s (fun x0=>Va x0))) (JhZ G1 s 83 #[Pt b1 0] (fun x0=>Va x0) (fun _ _=>by kernel_rfl) (fun x0=>JgT G1 x0 b1 hz1)) (Jd [0,0,0] [(2,Bo (!(Jaz s (fun x0=>Va x0))))] (Jc (Ja (Jk (Jl [0] [Bo (!(Jaz s (fun x0=>Va x0)))] (Jv hl1 ?_))))))))
 have hf_:(Kt s)=(!(Jaz s (fun x0=>Va x0))):=by
  unfold Kt;(try simp_all) <;> (intros;omega)
 · (try rw [hf_]);(simp only [JM];done)
 try simp only [BB] at h1
 refine Jd [1,1,1,1,0,0] [(2,Bo false)] (Jc (Ja (Jk (Jl [0] [Bo false] (Jv (Jt.le_refl _) ?_)))))
 have hf_:(Kt s)=false:=by
  unfold Kt;(try simp_all) <;> (intros;omega)
 · (try rw [hf_]);(simp only [JM];done)
theorem JgU (G:Jt) (a_l:Option Addr) (c_l:Nat) (l:List (List UInt8)) (h_l:RS ES G a_l c_l l) :QI Tryz.prog 90 #[Sl a_l l.length c_l] G [] (fun u G' L'=>u=.tuple #[Sr ((YD l).1),I ((YD l).2)]):=by
 refine JK Tryz.func90 34 [(0,Sl a_l l.length c_l)] rfl (fun w0 G0=>?_)
 refine Jg [0,0] [(0,Sl a_l l.length c_l)] (Je (Jg [0,0,0] [(0,Sl a_l l.length c_l),(9,Bo (decide ((l.length:Int) > 60)))] (Jo (decide ((l.length:Int) > 60)) (fun h1=>?_) (fun h1=>?_))))
 try simp only [BB] at h1
 refine Jg [0,0] [(2,Sr ([])),(3,I 2)] (Jk (Jh (Jl [0,0] [Sr ([]),I 2] (Jv (Jt.le_refl _) ?_))))
 have hf_:(YD l)=([],2):=by
  unfold YD;(rw [if_pos (by omega)];done)
 · (try rw [hf_]);(simp only [JM];done)
 try simp only [BB] at h1
 refine Jn (Ja (Je (Jb (JjI 4 #[.pointer none,Sl none 0 0] 213 (fun b1=>Jc (Ja (Je (Jg [0,0,0] [(4,Pt b1 0),(10,Sl a_l l.length c_l),(11,I (l.length:Int)),(12,I 0)] (Jz (Yv ?_))))))))))
 have hlm_h_l:l.length≤9223372036854775807:=Nat.le_trans (h_l).le (h_l).max
 refine Qe (σ:=Nat×Value×Option Addr×Nat×List Ks×List UInt8×Jt) (fun q_=>(Jt.le G q_.2.2.2.2.2.2)∧(q_.1≤l.length)∧(q_.2.1=.pointer none∨q_.2.1=Pt b1 0)∧(Jaw 5 q_.2.2.1 q_.2.2.2.1 q_.2.2.2.2.2.1 q_.2.2.2.2.1)∧(q_.2.2.2.2.2.1=JeB (l.take q_.1))∧(q_.2.2.2.2.2.1.length≤600)∧(Jb2 0 l=Jb2 q_.2.2.2.2.2.1.length (l.drop q_.1))) (fun q_=>[(4,Pt b1 0),(10,Sl a_l l.length c_l),(11,I (l.length:Int)),(12,I (q_.1:Int))]) (fun q_=>q_.2.2.2.2.2.2) (fun q_=>[q_.2.2.2.2.1,[Yj 213 b1 0 [q_.2.1,Sl q_.2.2.1 q_.2.2.2.2.2.1.length q_.2.2.2.1]]]) (fun q_=>l.length-q_.1) (0,.pointer none,none,0,[],[],G) ⟨(Jt.le_refl _),(by (try dsimp only);exact Nat.zero_le _),(.inl rfl),(Jaw.nil _),rfl,(by (try dsimp only);simp),rfl⟩ (fun q_ hs=>?_)
 obtain ⟨i,A,a,c,r,t,g⟩:=q_
 obtain ⟨hle,hi,hA,hb,ht,hl6,hk⟩:=hs
 dsimp only at hle hi hA hb ht hl6 hk
 refine KP (fr':=[(4,Pt b1 0),(10,Sl a_l l.length c_l),(11,I (l.length:Int)),(12,I (i:Int))]) (L':=[r,[Yj 213 b1 0 [A,Sl a t.length c]]]) rfl rfl (Jg [0] [(4,Pt b1 0),(10,Sl a_l l.length c_l),(11,I (l.length:Int)),(12,I (i:Int)),(13,Bo (decide ((i:Int)<(l.length:Int))))] (Je (Jo (decide ((i:Int)<(l.length:Int))) (fun h2=>?_) (fun h2=>?_))))
 try simp only [BB] at h2
 refine Jn (Ja (Je (Jz (Je (Jb ?_)))))
 obtain ⟨b2,o1,rfl⟩:=RS.addr (h_l.mono hle) (k:=i) (by omega)
 obtain ⟨x1,hx1⟩:=Wj (l:=l) (k:=i) (by omega)
 obtain ⟨_,⟨rfl,_⟩,hc1⟩:=RS.get (h_l.mono hle) hx1
 refine Ki (b:=b2) (off:=o1) (len:=l.length) (cap:=c_l) (ik:=.i64) 14 9 1 i (by omega) (Ka 15 9 (cs:=[Sr x1]) 0 (Sr x1) hc1 (Jd [0] [(4,Pt b1 0),(6,Sr x1),(10,Sl (At b2 o1) l.length c_l),(11,I (l.length:Int)),(12,I (i:Int))] (Jc (Ja (Je (Je (Jb (Jd [0,0] [(4,Pt b1 0),(6,Sr x1),(10,Sl (At b2 o1) l.length c_l),(11,I (l.length:Int)),(12,I (i:Int)),(17,I ((x1).length:Int))] (JG 0 (JG 1 (Qs (Ls:=[[Yj 213 b1 0 [A,Sl a t.length c]],r]) (Lr:=[]) 18 (Jla g b1 A a c t r hb hA) (fun v G1 L1 hl1 hp=>?_))))))))))))
 obtain ⟨rfl,rfl⟩:=hp
 refine Jd [0,0] [(4,Pt b1 0),(6,Sr x1),(10,Sl (At b2 o1) l.length c_l),(11,I (l.length:Int)),(12,I (i:Int)),(20,Bo (decide (((x1).length:Int) > IntKind.i64.wrap (598-((t).length:Int)))))] ?_
 have e1:IntKind.i64.wrap (598-((t).length:Int))=598-((t).length:Int):=IntWalk.i64_in _ (by omega)
 refine J4 (fr':=[(4,Pt b1 0),(6,Sr x1),(10,Sl (At b2 o1) l.length c_l),(11,I (l.length:Int)),(12,I (i:Int)),(20,Bo (decide (((x1).length:Int) > 598-((t).length:Int))))]) (L':=[[Yj 213 b1 0 [A,Sl a t.length c]],r]) (by simp only [e1]) (by rfl) ?_
 clear e1
 refine Jc (Ja (Jo (decide (((x1).length:Int) > 598-((t).length:Int))) (fun h3=>?_) (fun h3=>?_)))
 try simp only [BB] at h3
 refine Jg [0,0] [(2,Sr ([])),(3,I 2)] (Jk (Jh (Js (Jh (QD (Js (Jh (Jl [0,0] [Sr ([]),I 2] (Jv (Jt.le_trans hle hl1) ?_)))))))))
 have hf_:(YD l)=([],2):=by
  unfold YD;(rw [if_neg (by omega),hk];(rw [Jk9 hx1 (by omega)];rfl))
 · (try rw [hf_]);(simp only [JM];done)
 try simp only [BB] at h3
 refine Jn (Ja (Je (Jb (Jd [0,0,0,0] [(4,Pt b1 0),(6,Sr x1),(10,Sl (At b2 o1) l.length c_l),(11,I (l.length:Int)),(12,I (i:Int)),(24,Y (IntKind.u8.wrap (((x1).length:Int).fdiv (2 ^ 8))))] (JG 1 (JG 1 (Qs (Ls:=[[Yj 213 b1 0 [A,Sl a t.length c]],r]) (Lr:=[]) 25 (Ja0 G1 b1 A a c t r hb hA (IntKind.u8.wrap (((x1).length:Int).fdiv (2 ^ 8))) (u8w _) (by omega)) (fun v G2 L1 hl2 hp=>?_))))))))
 obtain ⟨a1,c1,r1,rfl,hb1,rfl⟩:=hp
 refine Jc (Ja (Je (Jb (Jd [0,0,0] [(4,Pt b1 0),(6,Sr x1),(10,Sl (At b2 o1) l.length c_l),(11,I (l.length:Int)),(12,I (i:Int)),(28,Y (IntKind.u8.wrap ((x1).length:Int)))] (JG 1 (JG 1 (Qs (Ls:=[[Yj 213 b1 0 [Pt b1 0,Sl a1 ((t++[Z6 (IntKind.u8.wrap (((x1).length:Int).fdiv (2 ^ 8)))]).length) c1]],r1]) (Lr:=[]) 29 (Ja0 G2 b1 (Pt b1 0) a1 c1 (t++[Z6 (IntKind.u8.wrap (((x1).length:Int).fdiv (2 ^ 8)))]) r1 hb1 (.inr rfl) (IntKind.u8.wrap ((x1).length:Int)) (u8w _) (by (simp only [List.length_append,List.length_cons,List.length_nil];omega))) (fun v G3 L1 hl3 hp=>?_))))))))
 obtain ⟨a2,c2,r2,rfl,hb2,rfl⟩:=hp
 refine Jc (Ja (Jb (Jd [0] [(4,Pt b1 0),(10,Sl (At b2 o1) l.length c_l),(11,I (l.length:Int)),(12,I (i:Int)),(30,Sr x1)] (JG 1 (JG 1 (Qs (Ls:=[[Yj 213 b1 0 [Pt b1 0,Sl a2 (((t++[Z6 (IntKind.u8.wrap (((x1).length:Int).fdiv (2 ^ 8)))])++[Z6 (IntKind.u8.wrap ((x1).length:Int))]).length) c2]],r2]) (Lr:=[]) 31 (JcD G3 b1 (Pt b1 0) a2 c2 ((t++[Z6 (IntKind.u8.wrap (((x1).length:Int).fdiv (2 ^ 8)))])++[Z6 (IntKind.u8.wrap ((x1).length:Int))]) r2 hb2 (.inr rfl) x1 (by (simp only [List.length_append,List.length_cons,List.length_nil];omega))) (fun v G4 L1 hl4 hp=>?_)))))))
 obtain ⟨a3,c3,r3,rfl,hb3,rfl⟩:=hp
 refine Jc (JN (Ja (Jb (Jd [0,0] [(4,Pt b1 0),(10,Sl (At b2 o1) l.length c_l),(11,I (l.length:Int)),(12,I (IntKind.i64.wrap ((i:Int)+1)))] ?_))))
 have e2:IntKind.i64.wrap ((i:Int)+1)=(i:Int)+1:=IntWalk.i64_in _ (by omega)
 refine J4 (fr':=[(4,Pt b1 0),(10,Sl (At b2 o1) l.length c_l),(11,I (l.length:Int)),(12,I ((i:Int)+1))]) (L':=[[Yj 213 b1 0 [Pt b1 0,Sl a3 ((((t++[Z6 (IntKind.u8.wrap (((x1).length:Int).fdiv (2 ^ 8)))])++[Z6 (IntKind.u8.wrap ((x1).length:Int))])++x1).length) c3]],r3]) (by simp only [e2]) (by rfl) ?_
 clear e2
 exact Jc (Jj 0 (Jj 1 (Q4 [r3,[Yj 213 b1 0 [Pt b1 0,Sl a3 ((((t++[Z6 (IntKind.u8.wrap (((x1).length:Int).fdiv (2 ^ 8)))])++[Z6 (IntKind.u8.wrap ((x1).length:Int))])++x1).length) c3]]] (.cons_cons _ (.cons_cons _ .slnil)) (Qh (i+1,Pt b1 0,a3,c3,r3,((t++[Z6 (IntKind.u8.wrap (((x1).length:Int).fdiv (2 ^ 8)))])++[Z6 (IntKind.u8.wrap ((x1).length:Int))])++x1,G4) ⟨(Jt.le_trans hle (Jt.le_trans (Jt.le_trans (Jt.le_trans hl1 hl2) hl3) hl4)),(by omega),(.inr rfl),hb3,(by rw [ht];exact JjO hx1),(by simp only [List.length_append,List.length_cons,List.length_nil];omega),(by rw [hk,JhY (n:=t.length) hx1 (by omega)];simp [Nat.add_assoc,Nat.add_comm,Nat.add_left_comm])⟩ (by (try dsimp only);omega)))))
 try simp only [BB] at h2
 refine K2 (J3 (Kf (JV (Ja (Je (Jb (JG 0 (JG 1 (Qs (Ls:=[[Yj 213 b1 0 [A,Sl a t.length c]],r]) (Lr:=[]) 33 (JgR g b1 A a c t r hb hA) (fun v G5 L1 hl5 hp=>?_))))))))))
 obtain ⟨rfl,rfl⟩:=hp
 refine Jd [0,0] [(2,Sr t),(3,I 0)] (Jc (Ja (Jk (Jl [0,0] [Sr t,I 0] (Jv (Jt.le_trans hle hl5) ?_)))))
 have hf_:(YD l)=(t,0):=by
  unfold YD;(rw [if_neg (by omega),hk];(rw [List.drop_eq_nil_of_le (by omega),ht,List.take_of_length_le (by omega)];rfl))
 · (try rw [hf_]);(simp only [JM];done)
end Go.Proofs.YtnnlpbjdignhaaaGreatDoor
