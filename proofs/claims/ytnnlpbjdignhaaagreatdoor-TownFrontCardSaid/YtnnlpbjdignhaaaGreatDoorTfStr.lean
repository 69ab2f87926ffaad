import Derived.Test.YtnnlpbjdignhaaaGreatDoorTfTy
namespace Go.Proofs.YtnnlpbjdignhaaaGreatDoor
open Go.Tx
set_option linter.unusedVariables false
set_option linter.unusedSimpArgs false
def ZU (y:Int):UInt8:=UInt8.ofNat y.toNat
theorem u8w (x:Int):0≤IntKind.u8.wrap x∧IntKind.u8.wrap x<256:=by rw [Je7];omega
theorem Jj5 {y:Int} (h:0≤y∧y<256):y=((ZU y).toNat:Int):=by
 unfold ZU;rw [UInt8.toNat_ofNat'];omega
theorem JiR {p:Int→Bool} {s:List UInt8} {pos:Nat} (hp:pos<s.length) (h:p ((Utf8.decode (B s) pos).1:Int)=false) :
  V0 p s (s.length-(pos+(Utf8.decode (B s) pos).2)) (pos+(Utf8.decode (B s) pos).2)=V0 p s (s.length-pos) pos:=by
 have hw:=Jj2 s pos
 rw [Jh6 _ (s.length-pos-1) _ (by omega) (by omega)]
 obtain ⟨n,hn⟩:∃ n,s.length-pos=n+1:=⟨s.length-pos-1,by omega⟩
 rw [hn]
 show _=(if pos<s.length then (if p _ then (pos:Int) else V0 p s n (pos+(Utf8.decode (B s) pos).2)) else -1)
 rw [if_pos hp,if_neg (by rw [h];simp)]
 rfl
theorem Jg9 {p:Int→Bool} {s:List UInt8} {pos:Nat} (hp:pos<s.length) (h:p ((Utf8.decode (B s) pos).1:Int)=true):V0 p s (s.length-pos) pos=(pos:Int):=by
 obtain ⟨n,hn⟩:∃ n,s.length-pos=n+1:=⟨s.length-pos-1,by omega⟩
 rw [hn];unfold V0;rw [if_pos hp,if_pos h]
theorem Jj6 {p:Int→Bool} {s:List UInt8} {n pos:Nat} (hp:¬ pos<s.length):V0 p s n pos=-1:=by
 cases n with
 | zero=>rfl
 | succ n=>unfold V0;rw [if_neg hp]
def YA (s:List UInt8) (p:Int→Bool) (t:Bool):Int:=V0 (fun r=>p r == t) s s.length 0
def YT (s:List UInt8) (p:Int→Bool):Int:=YA s p true
def V2 (s:List UInt8) (p:Int→Bool):Bool:=decide (YT s p ≥ 0)
theorem Jha {s:List UInt8} {p:Int→Bool} (hp:∀ r:Int,128≤r→p r=true):V2 s p=s.any fun b=>p (b.toNat:Int):=by
 unfold V2 YT YA
 have:=JfY (p:=fun r=>p r == true) (fun r h=>by simp [hp r h]) (l:=s) s.length 0 (by omega)
 simpa using this
def Jah (r:Int):Bool:=decide (97≤r∧r≤122) || decide (48≤r∧r≤57)
def YO (r:Int):Bool:=!Jah r
def KD (s:List UInt8):Bool:=decide (1≤s.length) && decide (s.length≤12) && !V2 s YO
theorem Jfe {s:List UInt8}:KD s=true ↔ 1≤s.length∧s.length≤12∧∀ b∈s,Jah (b.toNat:Int)=true:=by
 unfold KD
 rw [Jha (fun r h=>by unfold YO Jah;simp;omega)]
 simp [YO,and_assoc]
def putC (p:List UInt8):List UInt8:=ZU (IntKind.u8.wrap ((p.length:Int).fdiv (2 ^ 8)))::ZU (IntKind.u8.wrap (p.length:Int))::p
def JdY (l:List (List UInt8)):List UInt8:=(l.map putC).flatten
def Jbu:Nat→List (List UInt8)→Bool
 | _,[]=>true
 | n,p::l=>decide (n+2+p.length≤600) && Jbu (n+2+p.length) l
theorem JiS {l:List (List UInt8)} {i:Nat} {x:List UInt8} (h:l[i]? = some x):((JdY (l.take i)++[ZU (IntKind.u8.wrap ((x.length:Int).fdiv (2 ^ 8)))])++[ZU (IntKind.u8.wrap (x.length:Int))])++x=JdY (l.take (i+1)):=by
 rw [List.take_add_one,h];simp [JdY,putC]
theorem Jhb {l:List (List UInt8)} {i n:Nat} {x:List UInt8} (h:l[i]? = some x) (hn:n+2+x.length≤600):Jbu n (l.drop i)=Jbu (((n+1)+1)+x.length) (l.drop (i+1)):=by
 obtain ⟨hi,rfl⟩:=List.getElem?_eq_some_iff.1 h
 rw [List.drop_eq_getElem_cons hi]
 show (decide _ && _)=_
 rw [decide_eq_true hn];rfl
theorem Jj7 {l:List (List UInt8)} {i n:Nat} {x:List UInt8} (h:l[i]? = some x) (hn:600<n+2+x.length):Jbu n (l.drop i)=false:=by
 obtain ⟨hi,rfl⟩:=List.getElem?_eq_some_iff.1 h
 rw [List.drop_eq_getElem_cons hi]
 show (decide _ && _)=_
 rw [decide_eq_false (by omega)];rfl
def Ym (l:List (List UInt8)):List UInt8×Int:=if 60<l.length then ([],2) else if Jbu 0 l then (JdY l,0) else ([],2)
theorem JeF (G:Jt) (b:Nat) (A:Value) (a:Option Addr) (n c:Nat) (hA:A=.pointer none∨A=Pt b 0):Jar Tryz.prog 159 #[Pt b 0] G [[Z5 213 b 0 [A,Sl a n c]]] (fun u G' L'=>u=.tuple #[]∧L'=[[Z5 213 b 0 [Pt b 0,Sl a n c]]]):=by
 rcases hA with rfl | rfl
 intro Lr
 refine JL Tryz.func159 20 [(0,Pt b 0)] rfl (fun w0 G0=>?_)
 show TC _ _ _ _ _ ([Z5 213 b 0 [.pointer none,Sl a n c]]::Lr)
 refine Jg [0,0,0,2,0] [(0,Pt b 0),(6,Bo true)] ?_
 refine J0 ?_
 refine Jb ?_
 refine Jc [0,0] [(7,Pt b 0),(8,Pt b 0)] ?_
 refine JfX (cs:=[.pointer none,Sl a n c]) 9 0 213 213 true ?_
 refine Jj1 (f:=185) (args:=#[Pt b 0]) 10 (Pt b 0) (fun w=>by rw [run_callFunc_extern (e:=Extern.AbiNoEscape.same) Tryz.func185 (by kernel_rfl) (by kernel_rfl) (by kernel_rfl) (by kernel_rfl)];rfl) ?_
 refine JfX (cs:=[.pointer none,Sl a n c]) 11 0 213 213 false ?_
 refine Kb [0,0,3] [] ([Z5 213 b 0 [Pt b 0,Sl a n c]]::Lr) (Jd ?_)
 refine Zj [] [] (QW (Lr:=Lr) [[Z5 213 b 0 [Pt b 0,Sl a n c]]] (.cons_cons _ (List.Sublist.refl _)) (Jt.le_refl _) ?_)
 exact ⟨rfl,rfl⟩
 intro Lr
 refine JL Tryz.func159 20 [(0,Pt b 0)] rfl (fun w0 G0=>?_)
 show TC _ _ _ _ _ ([Z5 213 b 0 [Pt b 0,Sl a n c]]::Lr)
 refine Jg [0,0,0,2,0] [(0,Pt b 0),(6,Bo false)] ?_
 refine Qm ?_
 refine Je (Jb ?_)
 refine Jc [0,0,0,2,0] [(6,Bo false),(17,Pt b 0),(18,Pt b 0)] ?_
 refine Jg6 19 (b:=b) (o':=0) (eq:=false) ?_
 refine Jd (Ja ?_)
 refine Qm ?_
 refine Jm ?_
 refine Zj [] [] (QW (Lr:=Lr) [[Z5 213 b 0 [Pt b 0,Sl a n c]]] (.cons_cons _ (List.Sublist.refl _)) (Jt.le_refl _) ?_)
 exact ⟨rfl,rfl⟩
theorem Jj8 (G:Jt) (b:Nat) (A:Value) (a:Option Addr) (c:Nat) (l:List UInt8) (r:List Kq) (hb:VZ 5 a c l r) (hA:A=.pointer none∨A=Pt b 0):Jar Tryz.prog 126 #[Pt b 0] G [[Z5 213 b 0 [A,Sl a l.length c]],r] (fun u G' L'=>u=I (l.length:Int)∧L'=[[Z5 213 b 0 [A,Sl a l.length c]],r]):=by
 intro Lr
 refine JL Tryz.func126 8 [(0,Pt b 0)] rfl (fun w0 G0=>?_)
 show TC _ _ _ _ _ ([Z5 213 b 0 [A,Sl a l.length c]]::r::Lr)
 refine Jg [0] [(0,Pt b 0)] ?_
 refine Jg [0,0,0,2,0,0] [(2,I (l.length:Int))] (Jk ?_)
 refine Jl [0] [I (l.length:Int)] (QW (Lr:=Lr) [[Z5 213 b 0 [A,Sl a l.length c]],r] (.cons_cons _ (.cons_cons _ (List.Sublist.refl _))) (Jt.le_refl _) ?_)
 exact ⟨rfl,rfl⟩
theorem Jat (G:Jt) (b:Nat) (A:Value) (a:Option Addr) (c:Nat) (l:List UInt8) (r:List Kq) (hb:VZ 5 a c l r) (hA:A=.pointer none∨A=Pt b 0) (y:Int) (hy:0≤y∧y<256) (hl:l.length+1≤140737488355328):Jar Tryz.prog 127 #[Pt b 0,Y y] G [[Z5 213 b 0 [A,Sl a l.length c]],r] (fun u G' L'=>∃ a' c' r',u=.nilIface∧VZ 5 a' c' (l++[ZU y]) r'∧L'=[[Z5 213 b 0 [Pt b 0,Sl a' (l++[ZU y]).length c']],r']):=by
 intro Lr
 refine JL Tryz.func127 17 [(0,Pt b 0),(1,Y y)] rfl (fun w0 G0=>?_)
 show TC _ _ _ _ _ ([Z5 213 b 0 [A,Sl a l.length c]]::r::Lr)
 refine Jg [0] [(0,Pt b 0),(1,Y y)] (Je (Jb ?_))
 refine Jc [0] [(0,Pt b 0),(1,Y y),(5,Pt b 0)] ?_
 refine JF 0 ?_
 refine Qk (Ls:=[[Z5 213 b 0 [A,Sl a l.length c]]]) (Lr:=(r::Lr)) 6 (JeF G b A a l.length c hA) (fun v G1 L1 hl1 hp=>?_)
 obtain ⟨rfl,rfl⟩:=hp
 refine Jd (Ja (Je (Jb ?_)))
 refine Jc [0,0,0,0,2,0] [(7,Pt b 0),(11,Sl a l.length c),(12,Y y)] ?_
 refine KC 13 1 #[Y y] 5 (fun b1=>?_)
 refine JiJ (b:=b1) 14 5 2 0 (ZU y) y (Jj5 ‹_›) hb (by omega) (fun a1 c1 r1 hb1=>?_)
 refine Kb [0,0,5] [] ([Sg b1 0 [Y y]]::[Z5 213 b 0 [Pt b 0,Sl a1 ((l++[ZU y]).length) c1]]::r1::Lr) (Jd (Ja ?_))
 refine Jg [0] [(4,.nilIface)] (Jk ?_)
 refine Jl [0] [.nilIface] (QW (Lr:=Lr) [[Z5 213 b 0 [Pt b 0,Sl a1 ((l++[ZU y]).length) c1]],r1] (.cons _ (.cons_cons _ (.cons_cons _ (List.Sublist.refl _)))) hl1 ?_)
 exact ⟨a1,c1,r1,rfl,hb1,rfl⟩
theorem Jb4 (G:Jt) (b:Nat) (A:Value) (a:Option Addr) (c:Nat) (l:List UInt8) (r:List Kq) (hb:VZ 5 a c l r) (hA:A=.pointer none∨A=Pt b 0) (s:List UInt8) (hl:l.length+s.length≤140737488355328):Jar Tryz.prog 128 #[Pt b 0,Sr s] G [[Z5 213 b 0 [A,Sl a l.length c]],r] (fun u G' L'=>∃ a' c' r',u=.tuple #[I (s.length:Int),.nilIface]∧VZ 5 a' c' (l++s) r'∧L'=[[Z5 213 b 0 [Pt b 0,Sl a' (l++s).length c']],r']):=by
 intro Lr
 refine JL Tryz.func128 19 [(0,Pt b 0),(1,Sr s)] rfl (fun w0 G0=>?_)
 show TC _ _ _ _ _ ([Z5 213 b 0 [A,Sl a l.length c]]::r::Lr)
 refine Jg [0,0] [(0,Pt b 0),(1,Sr s)] (Je (Jb ?_))
 refine Jc [0] [(0,Pt b 0),(1,Sr s),(6,Pt b 0)] ?_
 refine JF 0 ?_
 refine Qk (Ls:=[[Z5 213 b 0 [A,Sl a l.length c]]]) (Lr:=(r::Lr)) 7 (JeF G b A a l.length c hA) (fun v G1 L1 hl1 hp=>?_)
 obtain ⟨rfl,rfl⟩:=hp
 refine Jd (Ja (Je (Jb ?_)))
 refine Jc [0,0,0,0,2,0] [(1,Sr s),(8,Pt b 0),(12,Sl a l.length c),(13,Sr s)] ?_
 refine JiI (s:=s) 14 5 1 hb (by omega) (fun a1 c1 r1 hb1=>?_)
 refine Kb [0,0,3] [(1,Sr s)] ([Z5 213 b 0 [Pt b 0,Sl a1 ((l++s).length) c1]]::r1::Lr) (Jd (Ja ?_))
 refine Jg [0,0,0,0] [(4,I ((s).length:Int)),(5,.nilIface)] (Jk ?_)
 refine Jl [0,0] [I ((s).length:Int),.nilIface] (QW (Lr:=Lr) [[Z5 213 b 0 [Pt b 0,Sl a1 ((l++s).length) c1]],r1] (.cons_cons _ (.cons_cons _ (List.Sublist.refl _))) hl1 ?_)
 exact ⟨a1,c1,r1,rfl,hb1,rfl⟩
theorem Jf1 (G:Jt) (b:Nat) (A:Value) (a:Option Addr) (c:Nat) (l:List UInt8) (r:List Kq) (hb:VZ 5 a c l r) (hA:A=.pointer none∨A=Pt b 0):Jar Tryz.prog 129 #[Pt b 0] G [[Z5 213 b 0 [A,Sl a l.length c]],r] (fun u G' L'=>u=Sr l∧L'=[[Z5 213 b 0 [A,Sl a l.length c]],[]]):=by
 intro Lr
 refine JL Tryz.func129 14 [(0,Pt b 0)] rfl (fun w0 G0=>?_)
 show TC _ _ _ _ _ ([Z5 213 b 0 [A,Sl a l.length c]]::r::Lr)
 refine Jg [0] [(0,Pt b 0)] (Je ?_)
 refine Kw [10] ?_
 refine Wa [(0,Pt b 0),(1,Pt b 0),(2,Pt b 1),(3,Sl a l.length c),(4,JeD a),(5,Pt b 0),(6,Pt b 0),(7,Pt b 1),(8,Sl a l.length c),(9,I (l.length:Int))] ?_
 refine JZ [] [(0,0),(1,0),(2,0),(3,2),(5,0),(6,0),(7,0),(8,2),(9,0)] [4] [10] (List.forall_mem_cons.2 ⟨?_,List.forall_mem_nil _⟩) (List.forall_mem_cons.2 ⟨?_,List.forall_mem_nil _⟩)
 refine Jq 4 7 (JeD a) [(6,Sl a l.length c)] (fun X=>?_)
 exact JjX 7 hb Jn
 refine JO 10 [(7,JeD a),(12,I (l.length:Int))] (fun X=>?_)
 refine JiK (e:=5) 13 1 hb ?_
 refine JS [(10,Sr l),(11,Sr l)] ?_
 refine Kv [0,1,2,3,4,5,6,7,8,9] [(11,0)] [] [(2,Sr l)] (List.forall_mem_nil _) ?_
 refine Ja (Jk ?_)
 refine Jl [0] [Sr l] (QW (Lr:=Lr) [[Z5 213 b 0 [A,Sl a l.length c]],[]] (.cons_cons _ (.cons_cons _ (List.Sublist.refl _))) (Jt.le_refl _) ?_)
 exact ⟨rfl,rfl⟩
theorem Jf2 (G:Jt) (s:List UInt8) (k_f:FuncId) (caps_f:Array Value) (p_f:Int→Bool) (hk_f:Jak Tryz.prog k_f) (h_f:∀ (x0:Int),QE Tryz.prog k_f (#[.int .i32 x0]++caps_f) G [] (fun u _ _=>u=Bo (p_f x0))) (t:Bool) :QE Tryz.prog 156 #[Sr s,.func (.func k_f) #[] caps_f,Bo t] G [] (fun u G' L'=>u=I (YA s p_f t)):=by
 refine JL Tryz.func156 21 [(0,Sr s),(1,.func (.func k_f) #[] caps_f),(2,Bo t)] rfl (fun w0 G0=>?_)
 refine Jg [0] [(0,Sr s),(1,.func (.func k_f) #[] caps_f),(2,Bo t)] (Je (Je (Jb ?_)))
 refine Jc [0] [(1,.func (.func k_f) #[] caps_f),(2,Bo t),(9,Sr s)] ?_
 refine Jg5 (l:=s) 10 (fun b1=>?_)
 refine Jd (Ja (Jy ?_))
 refine Qb (σ:=Nat) (fun q_=>(V0 (fun r=>p_f r == t) s (s.length-q_) q_=V0 (fun r=>p_f r == t) s s.length 0)) (fun q_=>[(1,.func (.func k_f) #[] caps_f),(2,Bo t),(10,Pt b1 0)]) (fun q_=>G) (fun q_=>[[Ob b1 (.stringIter (B s) q_)]]) (fun q_=>s.length-q_) 0 rfl (fun q_ hs=>?_)
 revert hs;revert q_;intro pos hs
 have hn:=hs
 refine KJ (fr':=[(1,.func (.func k_f) #[] caps_f),(2,Bo t),(10,Pt b1 0)]) (L':=[[Ob b1 (.stringIter (B s) pos)]]) rfl rfl ?_
 refine Je (Jb ?_)
 refine JiL (b:=b1) (pos:=pos) (l:=s) 11 0 (fun hp1=>?_) (fun hp1=>?_)
 refine Jc [0] [(1,.func (.func k_f) #[] caps_f),(2,Bo t),(10,Pt b1 0),(11,.tuple #[Bo true,I (pos:Int),.int .i32 ((Utf8.decode (B s) pos).1:Int)]),(12,Bo true)] (Jd (Ja (Je ?_)))
 refine J0 ?_
 refine Jm (Ja (Jy ?_))
 refine Jg [0,0,0,0] [(1,.func (.func k_f) #[] caps_f),(2,Bo t),(7,I (pos:Int)),(8,.int .i32 ((Utf8.decode (B s) pos).1:Int)),(10,Pt b1 0)] (Je (Jb ?_))
 refine Jc [0,0] [(1,.func (.func k_f) #[] caps_f),(2,Bo t),(7,I (pos:Int)),(10,Pt b1 0),(15,.func (.func k_f) #[] caps_f),(16,.int .i32 ((Utf8.decode (B s) pos).1:Int))] ?_
 refine Zk (k:=k_f) (caps:=caps_f) (args:=#[.int .i32 ((Utf8.decode (B s) pos).1:Int)]) 17 (Bo (p_f ((Utf8.decode (B s) pos).1:Int))) hk_f (h_f ((Utf8.decode (B s) pos).1:Int)) ?_
 refine Jc [0,0] [(1,.func (.func k_f) #[] caps_f),(2,Bo t),(7,I (pos:Int)),(10,Pt b1 0),(19,Bo ((p_f ((Utf8.decode (B s) pos).1:Int)) == t))] (Jd (Ja ?_))
 refine Jo ((p_f ((Utf8.decode (B s) pos).1:Int)) == t) (fun h1=>?_) (fun h1=>?_)
 try simp only [BB] at h1
 refine Jg [0,0] [(6,I (pos:Int))] (Jk (Js (QB (Js (Jh ?_)))))
 refine Jl [0] [I (pos:Int)] (Jv (Jt.le_refl _) ?_)
 have hf_:(YA s p_f t)=(pos:Int):=by
  unfold YA;rw [← hn];exact Jg9 (p:=(fun r=>p_f r == t)) hp1 (by simpa using h1)
 · (try rw [hf_]);(simp only [JM];done)
 try simp only [BB] at h1
 refine Jm (JK ?_)
 exact Qd (pos+(Utf8.decode (B s) pos).2) (by rw [← hn];exact JiR (p:=(fun r=>p_f r == t)) hp1 (by simpa using h1)) (by have:=Jj2 s pos;(try dsimp only);omega)
 refine Jc [0] [(1,.func (.func k_f) #[] caps_f),(2,Bo t),(10,Pt b1 0),(11,.tuple #[Bo false]),(12,Bo false)] (Jd (Ja (Je ?_)))
 refine Qm ?_
 refine KU (J3 (Ke (JW (Ja ?_))))
 refine Jg [0] [(6,I (-1))] (Jk ?_)
 refine Jl [0] [I (-1)] (Jv (Jt.le_refl _) ?_)
 have hf_:(YA s p_f t)=(-1):=by
  unfold YA;rw [← hn];exact Jj6 hp1
 · (try rw [hf_]);(simp only [JM];done)
theorem Jff (G:Jt) (s:List UInt8) (k_f:FuncId) (caps_f:Array Value) (p_f:Int→Bool) (hk_f:Jak Tryz.prog k_f) (h_f:∀ (x0:Int),QE Tryz.prog k_f (#[.int .i32 x0]++caps_f) G [] (fun u _ _=>u=Bo (p_f x0))) :QE Tryz.prog 120 #[Sr s,.func (.func k_f) #[] caps_f] G [] (fun u G' L'=>u=I (YT s p_f)):=by
 refine JL Tryz.func120 8 [(0,Sr s),(1,.func (.func k_f) #[] caps_f)] rfl (fun w0 G0=>?_)
 refine Jg [0] [(0,Sr s),(1,.func (.func k_f) #[] caps_f)] (Je (Jb ?_))
 refine Jc [0,0] [(5,Sr s),(6,.func (.func k_f) #[] caps_f)] ?_
 refine Ji 7 (I (YA s p_f true)) (Jf2 G s k_f caps_f p_f hk_f h_f true) ?_
 refine Jc [0] [(4,I (YA s p_f true))] (Jd (Ja (Jk ?_)))
 refine Jl [0] [I (YA s p_f true)] (Jv (Jt.le_refl _) ?_)
 have hf_:(YT s p_f)=(YA s p_f true):=by
  rfl
 · (try rw [hf_]);(simp only [JM];done)
theorem Jhc (G:Jt) (s:List UInt8) (k_f:FuncId) (caps_f:Array Value) (p_f:Int→Bool) (hk_f:Jak Tryz.prog k_f) (h_f:∀ (x0:Int),QE Tryz.prog k_f (#[.int .i32 x0]++caps_f) G [] (fun u _ _=>u=Bo (p_f x0))) :QE Tryz.prog 82 #[Sr s,.func (.func k_f) #[] caps_f] G [] (fun u G' L'=>u=Bo (V2 s p_f)):=by
 refine JL Tryz.func82 9 [(0,Sr s),(1,.func (.func k_f) #[] caps_f)] rfl (fun w0 G0=>?_)
 refine Jg [0] [(0,Sr s),(1,.func (.func k_f) #[] caps_f)] (Je (Jb ?_))
 refine Jc [0,0] [(5,Sr s),(6,.func (.func k_f) #[] caps_f)] ?_
 refine Ji 7 (I (YT s p_f)) (Jff G s k_f caps_f p_f hk_f h_f) ?_
 refine Jc [0,0] [(4,Bo (decide (YT s p_f ≥ 0)))] (Jd (Ja (Jk ?_)))
 refine Jl [0] [Bo (decide (YT s p_f ≥ 0))] (Jv (Jt.le_refl _) ?_)
 have hf_:(V2 s p_f)=(decide (YT s p_f ≥ 0)):=by
  rfl
 · (try rw [hf_]);(simp only [JM];done)
theorem JiT (G:Jt) (r:Int) :QE Tryz.prog 81 #[.int .i32 r] G [] (fun u G' L'=>u=Bo (Jah r)):=by
 refine JL Tryz.func81 17 [(0,.int .i32 r)] rfl (fun w0 G0=>?_)
 refine Jg [0] [(0,.int .i32 r)] (Je (Jb ?_))
 refine Jc [0,0,0] [(0,.int .i32 r),(5,Bo (decide (r ≥ 97)))] ?_
 refine Ky (decide (r ≥ 97)) (fun bb=>[(0,.int .i32 r),(5,Bo bb)]) [0,0,0] [1,1,0] (fun bb=>[(0,.int .i32 r),(8,Bo (bb && (decide (r≤122))))]) ?_
 refine Jc [0] [(0,.int .i32 r),(9,Bo ((decide (r ≥ 97)) && (decide (r≤122))))] ?_
 refine QZ (fun bb=>[(0,.int .i32 r),(9,Bo bb)]) ((decide (r ≥ 97)) && (decide (r≤122))) (fun h1=>?_) (fun h1=>?_)
 try simp only [BB] at h1
 refine Jc [1,1,1,1,1,1,0,0] [(2,Bo true)] (Jd (Ja (Jk ?_)))
 refine Jl [0] [Bo true] (Jv (Jt.le_refl _) ?_)
 have hf_:(Jah r)=true:=by
  rw [Bool.eq_iff_iff];unfold Jah;simp;omega
 · (try rw [hf_]);(simp only [JM];done)
 try simp only [BB] at h1
 refine Jc [0,0,0] [(0,.int .i32 r),(9,Bo false),(12,Bo (decide (r ≥ 48)))] ?_
 refine Ky (decide (r ≥ 48)) (fun bb=>[(0,.int .i32 r),(9,Bo false),(12,Bo bb)]) [0,0,0] [1,1,0] (fun bb=>[(9,Bo false),(15,Bo (bb && (decide (r≤57))))]) ?_
 refine Jc [0,0] [(2,Bo ((decide (r ≥ 48)) && (decide (r≤57))))] (Jd (Ja (Jk ?_)))
 refine Jl [0] [Bo ((decide (r ≥ 48)) && (decide (r≤57)))] (Jv (Jt.le_refl _) ?_)
 have hf_:(Jah r)=((decide (r ≥ 48)) && (decide (r≤57))):=by
  rw [Bool.eq_iff_iff];unfold Jah;simp;omega
 · (try rw [hf_]);(simp only [JM];done)
theorem Jf3 (G:Jt) (r:Int) (b_i:Nat) (hz_i:∀ j v,([.func (.func 81) #[] #[]]:List Value)[j]? = some v→G b_i (0+j)=some v) :QE Tryz.prog 83 #[.int .i32 r,Pt b_i 0] G [] (fun u G' L'=>u=Bo (YO r)):=by
 refine JL Tryz.func83 8 [(0,.int .i32 r),(1,Pt b_i 0)] rfl (fun w0 G0=>?_)
 refine Jg [0] [(0,.int .i32 r),(1,Pt b_i 0)] (Je (Jb ?_))
 refine J9 (o':=0) 4 158 (cs:=[.func (.func 81) #[] #[]]) 0 (.func (.func 81) #[] #[]) hz_i ?_
 refine Jc [0] [(4,.func (.func 81) #[] #[]),(5,.int .i32 r)] ?_
 refine Ji 6 (Bo (Jah r)) (JiT G r) ?_
 refine Jc [0,0] [(3,Bo (!(Jah r)))] (Jd (Ja (Jk ?_)))
 refine Jl [0] [Bo (!(Jah r))] (Jv (Jt.le_refl _) ?_)
 have hf_:(YO r)=(!(Jah r)):=by
  rfl
 · (try rw [hf_]);(simp only [JM];done)
theorem Zd (G:Jt) (s:List UInt8) :QE Tryz.prog 41 #[Sr s] G [] (fun u G' L'=>u=Bo (KD s)):=by
 refine JL Tryz.func41 18 [(0,Sr s)] rfl (fun w0 G0=>?_)
 refine Jg [0] [(0,Sr s)] (Je (Jb ?_))
 refine Ju 3 #[.nilFunc] 158 (fun b1=>?_)
 refine Kb [3] [(0,Sr s),(3,Pt b1 0)] [[Sg b1 0 [.func (.func 81) #[] #[]]]] (Jd (Ja (Je (Jb ?_))))
 refine Jc [0,0,0,0] [(0,Sr s),(3,Pt b1 0),(7,Bo (decide (((s).length:Int) ≥ 1)))] ?_
 refine Ky (decide (((s).length:Int) ≥ 1)) (fun bb=>[(0,Sr s),(3,Pt b1 0),(7,Bo bb)]) [0,0,0,0] [1,1,1,0] (fun bb=>[(0,Sr s),(3,Pt b1 0),(11,Bo (bb && (decide (((s).length:Int)≤12))))]) ?_
 refine Jc [0] [(0,Sr s),(3,Pt b1 0),(12,Bo ((decide (((s).length:Int) ≥ 1)) && (decide (((s).length:Int)≤12))))] ?_
 refine QZ (fun bb=>[(0,Sr s),(3,Pt b1 0),(12,Bo bb)]) ((decide (((s).length:Int) ≥ 1)) && (decide (((s).length:Int)≤12))) (fun h1=>?_) (fun h1=>?_)
 try simp only [BB] at h1
 refine Jc [0,0] [(12,Bo true),(13,Sr s),(14,.func (.func 83) #[] #[Pt b1 0])] ?_
 refine QJ (b:=b1) (o:=0) (cs:=[.func (.func 81) #[] #[]]) 0 (fun G1 hl1 hz1=>?_)
 refine Ji 15 (Bo (V2 s (fun x0=>YO x0))) (Jhc G1 s 83 #[Pt b1 0] (fun x0=>YO x0) (fun _ _=>by kernel_rfl) (fun x0=>Jf3 G1 x0 b1 hz1)) ?_
 refine Jc [0,0,0] [(2,Bo (!(V2 s (fun x0=>YO x0))))] (Jd (Ja (Jk ?_)))
 refine Jl [0] [Bo (!(V2 s (fun x0=>YO x0)))] (Jv hl1 ?_)
 have hf_:(KD s)=(!(V2 s (fun x0=>YO x0))):=by
  unfold KD;(try simp_all) <;> (intros;omega)
 · (try rw [hf_]);(simp only [JM];done)
 try simp only [BB] at h1
 refine Jc [1,1,1,1,0,0] [(2,Bo false)] (Jd (Ja (Jk ?_)))
 refine Jl [0] [Bo false] (Jv (Jt.le_refl _) ?_)
 have hf_:(KD s)=false:=by
  unfold KD;(try simp_all) <;> (intros;omega)
 · (try rw [hf_]);(simp only [JM];done)
theorem Jf4 (G:Jt) (a_l:Option Addr) (c_l:Nat) (l:List (List UInt8)) (h_l:RS ES G a_l c_l l) :QE Tryz.prog 90 #[Sl a_l l.length c_l] G [] (fun u G' L'=>u=.tuple #[Sr ((Ym l).1),I ((Ym l).2)]):=by
 refine JL Tryz.func90 34 [(0,Sl a_l l.length c_l)] rfl (fun w0 G0=>?_)
 refine Jg [0,0] [(0,Sl a_l l.length c_l)] (Je ?_)
 refine Jg [0,0,0] [(0,Sl a_l l.length c_l),(9,Bo (decide ((l.length:Int) > 60)))] ?_
 refine Jo (decide ((l.length:Int) > 60)) (fun h1=>?_) (fun h1=>?_)
 try simp only [BB] at h1
 refine Jg [0,0] [(2,Sr ([])),(3,I 2)] (Jk (Jh ?_))
 refine Jl [0,0] [Sr ([]),I 2] (Jv (Jt.le_refl _) ?_)
 have hf_:(Ym l)=([],2):=by
  unfold Ym;(rw [if_pos (by omega)];done)
 · (try rw [hf_]);(simp only [JM];done)
 try simp only [BB] at h1
 refine Jm (Ja (Je (Jb ?_)))
 refine JiM 4 #[.pointer none,Sl none 0 0] 213 (fun b1=>?_)
 refine Jd (Ja (Je ?_))
 refine Jg [0,0,0] [(4,Pt b1 0),(10,Sl a_l l.length c_l),(11,I (l.length:Int)),(12,I 0)] (Jy ?_)
 refine Yg ?_
 have hlm_h_l:l.length≤9223372036854775807:=Nat.le_trans (h_l).le (h_l).max
 refine Qb (σ:=Nat×Value×Option Addr×Nat×List Kq×List UInt8×Jt) (fun q_=>(Jt.le G q_.2.2.2.2.2.2)∧(q_.1≤l.length)∧(q_.2.1=.pointer none∨q_.2.1=Pt b1 0)∧(VZ 5 q_.2.2.1 q_.2.2.2.1 q_.2.2.2.2.2.1 q_.2.2.2.2.1)∧(q_.2.2.2.2.2.1=JdY (l.take q_.1))∧(q_.2.2.2.2.2.1.length≤600)∧(Jbu 0 l=Jbu q_.2.2.2.2.2.1.length (l.drop q_.1))) (fun q_=>[(4,Pt b1 0),(10,Sl a_l l.length c_l),(11,I (l.length:Int)),(12,I (q_.1:Int))]) (fun q_=>q_.2.2.2.2.2.2) (fun q_=>[q_.2.2.2.2.1,[Z5 213 b1 0 [q_.2.1,Sl q_.2.2.1 q_.2.2.2.2.2.1.length q_.2.2.2.1]]]) (fun q_=>l.length-q_.1) (0,.pointer none,none,0,[],[],G) ⟨(Jt.le_refl _),(by (try dsimp only);exact Nat.zero_le _),(.inl rfl),(VZ.nil _),rfl,(by (try dsimp only);simp),rfl⟩ (fun q_ hs=>?_)
 obtain ⟨i,A,a,c,r,t,g⟩:=q_
 obtain ⟨hle,hi,hA,hb,ht,hl6,hk⟩:=hs
 dsimp only at hle hi hA hb ht hl6 hk
 refine KJ (fr':=[(4,Pt b1 0),(10,Sl a_l l.length c_l),(11,I (l.length:Int)),(12,I (i:Int))]) (L':=[r,[Z5 213 b1 0 [A,Sl a t.length c]]]) rfl rfl ?_
 refine Jg [0] [(4,Pt b1 0),(10,Sl a_l l.length c_l),(11,I (l.length:Int)),(12,I (i:Int)),(13,Bo (decide ((i:Int)<(l.length:Int))))] (Je ?_)
 refine Jo (decide ((i:Int)<(l.length:Int))) (fun h2=>?_) (fun h2=>?_)
 try simp only [BB] at h2
 refine Jm (Ja (Je (Jy (Je (Jb ?_)))))
 obtain ⟨b2,o1,rfl⟩:=RS.addr (h_l.mono hle) (k:=i) (by omega)
 obtain ⟨x1,hx1⟩:=Q8 (l:=l) (k:=i) (by omega)
 obtain ⟨_,⟨rfl,_⟩,hc1⟩:=RS.get (h_l.mono hle) hx1
 refine Kh (b:=b2) (off:=o1) (len:=l.length) (cap:=c_l) (ik:=.i64) 14 9 1 i (by omega) ?_
 refine J9 15 9 (cs:=[Sr x1]) 0 (Sr x1) hc1 ?_
 refine Jc [0] [(4,Pt b1 0),(6,Sr x1),(10,Sl (At b2 o1) l.length c_l),(11,I (l.length:Int)),(12,I (i:Int))] (Jd (Ja (Je (Je (Jb ?_)))))
 refine Jc [0,0] [(4,Pt b1 0),(6,Sr x1),(10,Sl (At b2 o1) l.length c_l),(11,I (l.length:Int)),(12,I (i:Int)),(17,I ((x1).length:Int))] ?_
 refine JF 0 ?_
 refine JF 1 ?_
 refine Qk (Ls:=[[Z5 213 b1 0 [A,Sl a t.length c]],r]) (Lr:=[]) 18 (Jj8 g b1 A a c t r hb hA) (fun v G1 L1 hl1 hp=>?_)
 obtain ⟨rfl,rfl⟩:=hp
 refine Jc [0,0] [(4,Pt b1 0),(6,Sr x1),(10,Sl (At b2 o1) l.length c_l),(11,I (l.length:Int)),(12,I (i:Int)),(20,Bo (decide (((x1).length:Int) > IntKind.i64.wrap (598-((t).length:Int)))))] ?_
 have e1:IntKind.i64.wrap (598-((t).length:Int))=598-((t).length:Int):=IntWalk.i64_in _ (by omega)
 refine J2 (fr':=[(4,Pt b1 0),(6,Sr x1),(10,Sl (At b2 o1) l.length c_l),(11,I (l.length:Int)),(12,I (i:Int)),(20,Bo (decide (((x1).length:Int) > 598-((t).length:Int))))]) (L':=[[Z5 213 b1 0 [A,Sl a t.length c]],r]) (by simp only [e1]) (by rfl) ?_
 clear e1
 refine Jd (Ja ?_)
 refine Jo (decide (((x1).length:Int) > 598-((t).length:Int))) (fun h3=>?_) (fun h3=>?_)
 try simp only [BB] at h3
 refine Jg [0,0] [(2,Sr ([])),(3,I 2)] (Jk (Jh (Js (Jh (QB (Js (Jh ?_)))))))
 refine Jl [0,0] [Sr ([]),I 2] (Jv (Jt.le_trans hle hl1) ?_)
 have hf_:(Ym l)=([],2):=by
  unfold Ym;(rw [if_neg (by omega),hk];(rw [Jj7 hx1 (by omega)];rfl))
 · (try rw [hf_]);(simp only [JM];done)
 try simp only [BB] at h3
 refine Jm (Ja (Je (Jb ?_)))
 refine Jc [0,0,0,0] [(4,Pt b1 0),(6,Sr x1),(10,Sl (At b2 o1) l.length c_l),(11,I (l.length:Int)),(12,I (i:Int)),(24,Y (IntKind.u8.wrap (((x1).length:Int).fdiv (2 ^ 8))))] ?_
 refine JF 1 ?_
 refine JF 1 ?_
 refine Qk (Ls:=[[Z5 213 b1 0 [A,Sl a t.length c]],r]) (Lr:=[]) 25 (Jat G1 b1 A a c t r hb hA (IntKind.u8.wrap (((x1).length:Int).fdiv (2 ^ 8))) (u8w _) (by omega)) (fun v G2 L1 hl2 hp=>?_)
 obtain ⟨a1,c1,r1,rfl,hb1,rfl⟩:=hp
 refine Jd (Ja (Je (Jb ?_)))
 refine Jc [0,0,0] [(4,Pt b1 0),(6,Sr x1),(10,Sl (At b2 o1) l.length c_l),(11,I (l.length:Int)),(12,I (i:Int)),(28,Y (IntKind.u8.wrap ((x1).length:Int)))] ?_
 refine JF 1 ?_
 refine JF 1 ?_
 refine Qk (Ls:=[[Z5 213 b1 0 [Pt b1 0,Sl a1 ((t++[ZU (IntKind.u8.wrap (((x1).length:Int).fdiv (2 ^ 8)))]).length) c1]],r1]) (Lr:=[]) 29 (Jat G2 b1 (Pt b1 0) a1 c1 (t++[ZU (IntKind.u8.wrap (((x1).length:Int).fdiv (2 ^ 8)))]) r1 hb1 (.inr rfl) (IntKind.u8.wrap ((x1).length:Int)) (u8w _) (by (simp only [List.length_append,List.length_cons,List.length_nil];omega))) (fun v G3 L1 hl3 hp=>?_)
 obtain ⟨a2,c2,r2,rfl,hb2,rfl⟩:=hp
 refine Jd (Ja (Jb ?_))
 refine Jc [0] [(4,Pt b1 0),(10,Sl (At b2 o1) l.length c_l),(11,I (l.length:Int)),(12,I (i:Int)),(30,Sr x1)] ?_
 refine JF 1 ?_
 refine JF 1 ?_
 refine Qk (Ls:=[[Z5 213 b1 0 [Pt b1 0,Sl a2 (((t++[ZU (IntKind.u8.wrap (((x1).length:Int).fdiv (2 ^ 8)))])++[ZU (IntKind.u8.wrap ((x1).length:Int))]).length) c2]],r2]) (Lr:=[]) 31 (Jb4 G3 b1 (Pt b1 0) a2 c2 ((t++[ZU (IntKind.u8.wrap (((x1).length:Int).fdiv (2 ^ 8)))])++[ZU (IntKind.u8.wrap ((x1).length:Int))]) r2 hb2 (.inr rfl) x1 (by (simp only [List.length_append,List.length_cons,List.length_nil];omega))) (fun v G4 L1 hl4 hp=>?_)
 obtain ⟨a3,c3,r3,rfl,hb3,rfl⟩:=hp
 refine Jd (JK (Ja (Jb ?_)))
 refine Jc [0,0] [(4,Pt b1 0),(10,Sl (At b2 o1) l.length c_l),(11,I (l.length:Int)),(12,I (IntKind.i64.wrap ((i:Int)+1)))] ?_
 have e2:IntKind.i64.wrap ((i:Int)+1)=(i:Int)+1:=IntWalk.i64_in _ (by omega)
 refine J2 (fr':=[(4,Pt b1 0),(10,Sl (At b2 o1) l.length c_l),(11,I (l.length:Int)),(12,I ((i:Int)+1))]) (L':=[[Z5 213 b1 0 [Pt b1 0,Sl a3 ((((t++[ZU (IntKind.u8.wrap (((x1).length:Int).fdiv (2 ^ 8)))])++[ZU (IntKind.u8.wrap ((x1).length:Int))])++x1).length) c3]],r3]) (by simp only [e2]) (by rfl) ?_
 clear e2
 refine Jd ?_
 refine Jj 0 ?_
 refine Jj 1 ?_
 refine QY [r3,[Z5 213 b1 0 [Pt b1 0,Sl a3 ((((t++[ZU (IntKind.u8.wrap (((x1).length:Int).fdiv (2 ^ 8)))])++[ZU (IntKind.u8.wrap ((x1).length:Int))])++x1).length) c3]]] (.cons_cons _ (.cons_cons _ .slnil)) ?_
 exact Qd (i+1,Pt b1 0,a3,c3,r3,((t++[ZU (IntKind.u8.wrap (((x1).length:Int).fdiv (2 ^ 8)))])++[ZU (IntKind.u8.wrap ((x1).length:Int))])++x1,G4) ⟨(Jt.le_trans hle (Jt.le_trans (Jt.le_trans (Jt.le_trans hl1 hl2) hl3) hl4)),(by omega),(.inr rfl),hb3,(by rw [ht];exact JiS hx1),(by simp only [List.length_append,List.length_cons,List.length_nil];omega),(by rw [hk,Jhb (n:=t.length) hx1 (by omega)];simp [Nat.add_assoc,Nat.add_comm,Nat.add_left_comm])⟩ (by (try dsimp only);omega)
 try simp only [BB] at h2
 refine KU (J3 (Ke (JW (Ja (Je (Jb ?_))))))
 refine JF 0 ?_
 refine JF 1 ?_
 refine Qk (Ls:=[[Z5 213 b1 0 [A,Sl a t.length c]],r]) (Lr:=[]) 33 (Jf1 g b1 A a c t r hb hA) (fun v G5 L1 hl5 hp=>?_)
 obtain ⟨rfl,rfl⟩:=hp
 refine Jc [0,0] [(2,Sr t),(3,I 0)] (Jd (Ja (Jk ?_)))
 refine Jl [0,0] [Sr t,I 0] (Jv (Jt.le_trans hle hl5) ?_)
 have hf_:(Ym l)=(t,0):=by
  unfold Ym;(rw [if_neg (by omega),hk];(rw [List.drop_eq_nil_of_le (by omega),ht,List.take_of_length_le (by omega)];rfl))
 · (try rw [hf_]);(simp only [JM];done)
end Go.Proofs.YtnnlpbjdignhaaaGreatDoor
