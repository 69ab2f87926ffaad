import Derived.Test.YtnnlpbjdignhaaaGreatDoorThTy
namespace Go.Proofs.YtnnlpbjdignhaaaGreatDoor
open Go.Tx
set_option linter.unusedVariables false
set_option linter.unusedSimpArgs false
def JdV (y:Int):UInt8:=UInt8.ofNat y.toNat
theorem u8w (x:Int):0 ≤ IntKind.u8.wrap x ∧ IntKind.u8.wrap x < 256:=by rw [JkZ];omega
theorem JpV {y:Int} (h:0 ≤ y ∧ y < 256):y = ((JdV y).toNat:Int):=by
 unfold JdV;rw [UInt8.toNat_ofNat'];omega
theorem JoH {p:Int → Bool} {s:List UInt8} {pos:Nat} (hp:pos < s.length) (h:p ((Utf8.decode (B s) pos).1:Int) = false) :
  JfS p s (s.length - (pos + (Utf8.decode (B s) pos).2)) (pos + (Utf8.decode (B s) pos).2) = JfS p s (s.length - pos) pos:=by
 have hw:=JpS s pos
 rw [JnW _ (s.length - pos - 1) _ (by omega) (by omega)]
 obtain ⟨n,hn⟩:∃ n,s.length - pos = n + 1:=⟨s.length - pos - 1,by omega⟩
 rw [hn]
 show _ = (if pos < s.length then (if p _ then (pos:Int) else JfS p s n (pos + (Utf8.decode (B s) pos).2)) else -1)
 rw [if_pos hp,if_neg (by rw [h];simp)]
 rfl
theorem Jm0 {p:Int → Bool} {s:List UInt8} {pos:Nat} (hp:pos < s.length) (h:p ((Utf8.decode (B s) pos).1:Int) = true):JfS p s (s.length - pos) pos = (pos:Int):=by
 obtain ⟨n,hn⟩:∃ n,s.length - pos = n + 1:=⟨s.length - pos - 1,by omega⟩
 rw [hn];unfold JfS;rw [if_pos hp,if_pos h]
theorem JpW {p:Int → Bool} {s:List UInt8} {n pos:Nat} (hp:¬ pos < s.length):JfS p s n pos = -1:=by
 cases n with
 | zero=>rfl
 | succ n=>unfold JfS;rw [if_neg hp]
def Jey (s:List UInt8) (p:Int → Bool) (t:Bool):Int:=JfS (fun r=>p r == t) s s.length 0
def JeR (s:List UInt8) (p:Int → Bool):Int:=Jey s p true
def JfV (s:List UInt8) (p:Int → Bool):Bool:=decide (JeR s p ≥ 0)
theorem Jm1 {s:List UInt8} {p:Int → Bool} (hp:∀ r:Int,128 ≤ r → p r = true):JfV s p = s.any fun b=>p (b.toNat:Int):=by
 unfold JfV JeR Jey
 have:=JlQ (p:=fun r=>p r == true) (fun r h=>by simp [hp r h]) (l:=s) s.length 0 (by omega)
 simpa using this
def Jga (r:Int):Bool:=decide (97 ≤ r ∧ r ≤ 122) || decide (48 ≤ r ∧ r ≤ 57)
def JeL (r:Int):Bool:=!Jga r
def JaC (s:List UInt8):Bool:=decide (1 ≤ s.length) && decide (s.length ≤ 12) && !JfV s JeL
theorem Jk6 {s:List UInt8}:JaC s = true ↔ 1 ≤ s.length ∧ s.length ≤ 12 ∧ ∀ b ∈ s,Jga (b.toNat:Int) = true:=by
 unfold JaC
 rw [Jm1 (fun r h=>by unfold JeL Jga;simp;omega)]
 simp [JeL,and_assoc]
def putC (p:List UInt8):List UInt8:=JdV (IntKind.u8.wrap ((p.length:Int).fdiv (2 ^ 8))) :: JdV (IntKind.u8.wrap (p.length:Int)) :: p
def JjS (l:List (List UInt8)):List UInt8:=(l.map putC).flatten
def Jhn:Nat → List (List UInt8) → Bool
 | _,[]=>true
 | n,p :: l=>decide (n + 2 + p.length ≤ 600) && Jhn (n + 2 + p.length) l
theorem JoI {l:List (List UInt8)} {i:Nat} {x:List UInt8} (h:l[i]? = some x):((JjS (l.take i) ++ [JdV (IntKind.u8.wrap ((x.length:Int).fdiv (2 ^ 8)))]) ++ [JdV (IntKind.u8.wrap (x.length:Int))]) ++ x = JjS (l.take (i + 1)):=by
 rw [List.take_add_one,h];simp [JjS,putC]
theorem Jm2 {l:List (List UInt8)} {i n:Nat} {x:List UInt8} (h:l[i]? = some x) (hn:n + 2 + x.length ≤ 600):Jhn n (l.drop i) = Jhn (((n + 1) + 1) + x.length) (l.drop (i + 1)):=by
 obtain ⟨hi,rfl⟩:=List.getElem?_eq_some_iff.1 h
 rw [List.drop_eq_getElem_cons hi]
 show (decide _ && _) = _
 rw [decide_eq_true hn];rfl
theorem JpX {l:List (List UInt8)} {i n:Nat} {x:List UInt8} (h:l[i]? = some x) (hn:600 < n + 2 + x.length):Jhn n (l.drop i) = false:=by
 obtain ⟨hi,rfl⟩:=List.getElem?_eq_some_iff.1 h
 rw [List.drop_eq_getElem_cons hi]
 show (decide _ && _) = _
 rw [decide_eq_false (by omega)];rfl
def Jek (l:List (List UInt8)):List UInt8 × Int:=if 60 < l.length then ([],2) else if Jhn 0 l then (JjS l,0) else ([],2)
theorem Jky (G:Jt) (b:Nat) (A:Value) (a:Option Addr) (n c:Nat) (hA:A = .pointer none ∨ A = Pt b 0):Jgi Tryz.prog 159 #[Pt b 0] G [[SgT 213 b 0 [A,Sl a n c]]] (fun u G' L'=>u = .tuple #[] ∧ L' = [[SgT 213 b 0 [Pt b 0,Sl a n c]]]):=by
 rcases hA with rfl | rfl
 intro Lr
 refine JL Tryz.func159 20 [(0,Pt b 0)] rfl (fun w0 G0=>?_)
 show TC _ _ _ _ _ ([SgT 213 b 0 [.pointer none,Sl a n c]] :: Lr)
 refine Jg [0,0,0,2,0] [(0,Pt b 0),(6,Bo true)] ?_
 refine JT ?_
 refine Jb ?_
 refine Jd [0,0] [(7,Pt b 0),(8,Pt b 0)] ?_
 refine JlP (cs:=[.pointer none,Sl a n c]) 9 0 213 213 true ?_
 refine JpR (f:=185) (args:=#[Pt b 0]) 10 (Pt b 0) (fun w=>by rw [run_callFunc_extern (e:=Extern.AbiNoEscape.same) Tryz.func185 (by kernel_rfl) (by kernel_rfl) (by kernel_rfl) (by kernel_rfl)];rfl) ?_
 refine JlP (cs:=[.pointer none,Sl a n c]) 11 0 213 213 false ?_
 refine Jaa [0,0,3] [] ([SgT 213 b 0 [Pt b 0,Sl a n c]] :: Lr) (Jc ?_)
 refine Jdl [] [] (JbU (Lr:=Lr) [[SgT 213 b 0 [Pt b 0,Sl a n c]]] (.cons_cons _ (List.Sublist.refl _)) (Jt.le_refl _) ?_)
 exact ⟨rfl,rfl⟩
 intro Lr
 refine JL Tryz.func159 20 [(0,Pt b 0)] rfl (fun w0 G0=>?_)
 show TC _ _ _ _ _ ([SgT 213 b 0 [Pt b 0,Sl a n c]] :: Lr)
 refine Jg [0,0,0,2,0] [(0,Pt b 0),(6,Bo false)] ?_
 refine Jbk ?_
 refine Je (Jb ?_)
 refine Jd [0,0,0,2,0] [(6,Bo false),(17,Pt b 0),(18,Pt b 0)] ?_
 refine JmX 19 (b:=b) (o':=0) (eq:=false) ?_
 refine Jc (Ja ?_)
 refine Jbk ?_
 refine Jn ?_
 refine Jdl [] [] (JbU (Lr:=Lr) [[SgT 213 b 0 [Pt b 0,Sl a n c]]] (.cons_cons _ (List.Sublist.refl _)) (Jt.le_refl _) ?_)
 exact ⟨rfl,rfl⟩
theorem JpY (G:Jt) (b:Nat) (A:Value) (a:Option Addr) (c:Nat) (l:List UInt8) (r:List Seg) (hb:JfR 5 a c l r) (hA:A = .pointer none ∨ A = Pt b 0):Jgi Tryz.prog 126 #[Pt b 0] G [[SgT 213 b 0 [A,Sl a l.length c]],r] (fun u G' L'=>u = I (l.length:Int) ∧ L' = [[SgT 213 b 0 [A,Sl a l.length c]],r]):=by
 intro Lr
 refine JL Tryz.func126 8 [(0,Pt b 0)] rfl (fun w0 G0=>?_)
 show TC _ _ _ _ _ ([SgT 213 b 0 [A,Sl a l.length c]] :: r :: Lr)
 refine Jg [0] [(0,Pt b 0)] ?_
 refine Jg [0,0,0,2,0,0] [(2,I (l.length:Int))] (Jk ?_)
 refine Jl [0] [I (l.length:Int)] (JbU (Lr:=Lr) [[SgT 213 b 0 [A,Sl a l.length c]],r] (.cons_cons _ (.cons_cons _ (List.Sublist.refl _))) (Jt.le_refl _) ?_)
 exact ⟨rfl,rfl⟩
theorem Jgl (G:Jt) (b:Nat) (A:Value) (a:Option Addr) (c:Nat) (l:List UInt8) (r:List Seg) (hb:JfR 5 a c l r) (hA:A = .pointer none ∨ A = Pt b 0) (y:Int) (hy:0 ≤ y ∧ y < 256) (hl:l.length + 1 ≤ 140737488355328):Jgi Tryz.prog 127 #[Pt b 0,Y y] G [[SgT 213 b 0 [A,Sl a l.length c]],r] (fun u G' L'=>∃ a' c' r',u = .nilIface ∧ JfR 5 a' c' (l ++ [JdV y]) r' ∧ L' = [[SgT 213 b 0 [Pt b 0,Sl a' (l ++ [JdV y]).length c']],r']):=by
 intro Lr
 refine JL Tryz.func127 17 [(0,Pt b 0),(1,Y y)] rfl (fun w0 G0=>?_)
 show TC _ _ _ _ _ ([SgT 213 b 0 [A,Sl a l.length c]] :: r :: Lr)
 refine Jg [0] [(0,Pt b 0),(1,Y y)] (Je (Jb ?_))
 refine Jd [0] [(0,Pt b 0),(1,Y y),(5,Pt b 0)] ?_
 refine JE 0 ?_
 refine Jbi (Ls:=[[SgT 213 b 0 [A,Sl a l.length c]]]) (Lr:=(r :: Lr)) 6 (Jky G b A a l.length c hA) (fun v G1 L1 hl1 hp=>?_)
 obtain ⟨rfl,rfl⟩:=hp
 refine Jc (Ja (Je (Jb ?_)))
 refine Jd [0,0,0,0,2,0] [(7,Pt b 0),(11,Sl a l.length c),(12,Y y)] ?_
 refine JaB 13 1 #[Y y] 5 (fun b1=>?_)
 refine Joz (b:=b1) 14 5 2 0 (JdV y) y (JpV ‹_›) hb (by omega) (fun a1 c1 r1 hb1=>?_)
 refine Jaa [0,0,5] [] ([Sg b1 0 [Y y]] :: [SgT 213 b 0 [Pt b 0,Sl a1 ((l ++ [JdV y]).length) c1]] :: r1 :: Lr) (Jc (Ja ?_))
 refine Jg [0] [(4,.nilIface)] (Jk ?_)
 refine Jl [0] [.nilIface] (JbU (Lr:=Lr) [[SgT 213 b 0 [Pt b 0,Sl a1 ((l ++ [JdV y]).length) c1]],r1] (.cons _ (.cons_cons _ (.cons_cons _ (List.Sublist.refl _)))) hl1 ?_)
 exact ⟨a1,c1,r1,rfl,hb1,rfl⟩
theorem JhX (G:Jt) (b:Nat) (A:Value) (a:Option Addr) (c:Nat) (l:List UInt8) (r:List Seg) (hb:JfR 5 a c l r) (hA:A = .pointer none ∨ A = Pt b 0) (s:List UInt8) (hl:l.length + s.length ≤ 140737488355328):Jgi Tryz.prog 128 #[Pt b 0,Sr s] G [[SgT 213 b 0 [A,Sl a l.length c]],r] (fun u G' L'=>∃ a' c' r',u = .tuple #[I (s.length:Int),.nilIface] ∧ JfR 5 a' c' (l ++ s) r' ∧ L' = [[SgT 213 b 0 [Pt b 0,Sl a' (l ++ s).length c']],r']):=by
 intro Lr
 refine JL Tryz.func128 19 [(0,Pt b 0),(1,Sr s)] rfl (fun w0 G0=>?_)
 show TC _ _ _ _ _ ([SgT 213 b 0 [A,Sl a l.length c]] :: r :: Lr)
 refine Jg [0,0] [(0,Pt b 0),(1,Sr s)] (Je (Jb ?_))
 refine Jd [0] [(0,Pt b 0),(1,Sr s),(6,Pt b 0)] ?_
 refine JE 0 ?_
 refine Jbi (Ls:=[[SgT 213 b 0 [A,Sl a l.length c]]]) (Lr:=(r :: Lr)) 7 (Jky G b A a l.length c hA) (fun v G1 L1 hl1 hp=>?_)
 obtain ⟨rfl,rfl⟩:=hp
 refine Jc (Ja (Je (Jb ?_)))
 refine Jd [0,0,0,0,2,0] [(1,Sr s),(8,Pt b 0),(12,Sl a l.length c),(13,Sr s)] ?_
 refine Joy (s:=s) 14 5 1 hb (by omega) (fun a1 c1 r1 hb1=>?_)
 refine Jaa [0,0,3] [(1,Sr s)] ([SgT 213 b 0 [Pt b 0,Sl a1 ((l ++ s).length) c1]] :: r1 :: Lr) (Jc (Ja ?_))
 refine Jg [0,0,0,0] [(4,I ((s).length:Int)),(5,.nilIface)] (Jk ?_)
 refine Jl [0,0] [I ((s).length:Int),.nilIface] (JbU (Lr:=Lr) [[SgT 213 b 0 [Pt b 0,Sl a1 ((l ++ s).length) c1]],r1] (.cons_cons _ (.cons_cons _ (List.Sublist.refl _))) hl1 ?_)
 exact ⟨a1,c1,r1,rfl,hb1,rfl⟩
theorem JlT (G:Jt) (b:Nat) (A:Value) (a:Option Addr) (c:Nat) (l:List UInt8) (r:List Seg) (hb:JfR 5 a c l r) (hA:A = .pointer none ∨ A = Pt b 0):Jgi Tryz.prog 129 #[Pt b 0] G [[SgT 213 b 0 [A,Sl a l.length c]],r] (fun u G' L'=>u = Sr l ∧ L' = [[SgT 213 b 0 [A,Sl a l.length c]],[]]):=by
 intro Lr
 refine JL Tryz.func129 14 [(0,Pt b 0)] rfl (fun w0 G0=>?_)
 show TC _ _ _ _ _ ([SgT 213 b 0 [A,Sl a l.length c]] :: r :: Lr)
 refine Jg [0] [(0,Pt b 0)] (Je ?_)
 refine Jau [10] ?_
 refine Jb6 [(0,Pt b 0),(1,Pt b 0),(2,Pt b 1),(3,Sl a l.length c),(4,Jkw a),(5,Pt b 0),(6,Pt b 0),(7,Pt b 1),(8,Sl a l.length c),(9,I (l.length:Int))] ?_
 refine JZ [] [(0,0),(1,0),(2,0),(3,2),(5,0),(6,0),(7,0),(8,2),(9,0)] [4] [10] (List.forall_mem_cons.2 ⟨?_,List.forall_mem_nil _⟩) (List.forall_mem_cons.2 ⟨?_,List.forall_mem_nil _⟩)
 refine Jq 4 7 (Jkw a) [(6,Sl a l.length c)] (fun X=>?_)
 exact JpN 7 hb Jm
 refine JP 10 [(7,Jkw a),(12,I (l.length:Int))] (fun X=>?_)
 refine JoA (e:=5) 13 1 hb ?_
 refine JU [(10,Sr l),(11,Sr l)] ?_
 refine Jav [0,1,2,3,4,5,6,7,8,9] [(11,0)] [] [(2,Sr l)] (List.forall_mem_nil _) ?_
 refine Ja (Jk ?_)
 refine Jl [0] [Sr l] (JbU (Lr:=Lr) [[SgT 213 b 0 [A,Sl a l.length c]],[]] (.cons_cons _ (.cons_cons _ (List.Sublist.refl _))) (Jt.le_refl _) ?_)
 exact ⟨rfl,rfl⟩
theorem JlU (G:Jt) (s:List UInt8) (k_f:FuncId) (caps_f:Array Value) (p_f:Int → Bool) (hk_f:Jgc Tryz.prog k_f) (h_f:∀ (x0:Int),Con Tryz.prog k_f (#[.int .i32 x0] ++ caps_f) G [] (fun u _ _=>u = Bo (p_f x0))) (t:Bool) :Con Tryz.prog 156 #[Sr s,.func (.func k_f) #[] caps_f,Bo t] G [] (fun u G' L'=>u = I (Jey s p_f t)):=by
 refine JL Tryz.func156 21 [(0,Sr s),(1,.func (.func k_f) #[] caps_f),(2,Bo t)] rfl (fun w0 G0=>?_)
 refine Jg [0] [(0,Sr s),(1,.func (.func k_f) #[] caps_f),(2,Bo t)] (Je (Je (Jb ?_)))
 refine Jd [0] [(1,.func (.func k_f) #[] caps_f),(2,Bo t),(9,Sr s)] ?_
 refine JmW (l:=s) 10 (fun b1=>?_)
 refine Jc (Ja (Jy ?_))
 refine Ja8 (σ:=Nat) (fun q_=>(JfS (fun r=>p_f r == t) s (s.length - q_) q_ = JfS (fun r=>p_f r == t) s s.length 0)) (fun q_=>[(1,.func (.func k_f) #[] caps_f),(2,Bo t),(10,Pt b1 0)]) (fun q_=>G) (fun q_=>[[Ob b1 (.stringIter (B s) q_)]]) (fun q_=>s.length - q_) 0 rfl (fun q_ hs=>?_)
 revert hs;revert q_;intro pos hs
 have hn:=hs
 refine JaJ (fr':=[(1,.func (.func k_f) #[] caps_f),(2,Bo t),(10,Pt b1 0)]) (L':=[[Ob b1 (.stringIter (B s) pos)]]) rfl rfl ?_
 refine Je (Jb ?_)
 refine JoB (b:=b1) (pos:=pos) (l:=s) 11 0 (fun hp1=>?_) (fun hp1=>?_)
 refine Jd [0] [(1,.func (.func k_f) #[] caps_f),(2,Bo t),(10,Pt b1 0),(11,.tuple #[Bo true,I (pos:Int),.int .i32 ((Utf8.decode (B s) pos).1:Int)]),(12,Bo true)] (Jc (Ja (Je ?_)))
 refine JT ?_
 refine Jn (Ja (Jy ?_))
 refine Jg [0,0,0,0] [(1,.func (.func k_f) #[] caps_f),(2,Bo t),(7,I (pos:Int)),(8,.int .i32 ((Utf8.decode (B s) pos).1:Int)),(10,Pt b1 0)] (Je (Jb ?_))
 refine Jd [0,0] [(1,.func (.func k_f) #[] caps_f),(2,Bo t),(7,I (pos:Int)),(10,Pt b1 0),(15,.func (.func k_f) #[] caps_f),(16,.int .i32 ((Utf8.decode (B s) pos).1:Int))] ?_
 refine Jdm (k:=k_f) (caps:=caps_f) (args:=#[.int .i32 ((Utf8.decode (B s) pos).1:Int)]) 17 (Bo (p_f ((Utf8.decode (B s) pos).1:Int))) hk_f (h_f ((Utf8.decode (B s) pos).1:Int)) ?_
 refine Jd [0,0] [(1,.func (.func k_f) #[] caps_f),(2,Bo t),(7,I (pos:Int)),(10,Pt b1 0),(19,Bo ((p_f ((Utf8.decode (B s) pos).1:Int)) == t))] (Jc (Ja ?_))
 refine Jo ((p_f ((Utf8.decode (B s) pos).1:Int)) == t) (fun h1=>?_) (fun h1=>?_)
 try simp only [BB] at h1
 refine Jg [0,0] [(6,I (pos:Int))] (Jk (Js (Jbc (Js (Jh ?_)))))
 refine Jl [0] [I (pos:Int)] (Jw (Jt.le_refl _) ?_)
 have hf_:(Jey s p_f t) = (pos:Int):=by
  unfold Jey;rw [← hn];exact Jm0 (p:=(fun r=>p_f r == t)) hp1 (by simpa using h1)
 · (try rw [hf_]);(simp only [JM];done)
 try simp only [BB] at h1
 refine Jn (JK ?_)
 exact Jba (pos + (Utf8.decode (B s) pos).2) (by rw [← hn];exact JoH (p:=(fun r=>p_f r == t)) hp1 (by simpa using h1)) (by have:=JpS s pos;(try dsimp only);omega)
 refine Jd [0] [(1,.func (.func k_f) #[] caps_f),(2,Bo t),(10,Pt b1 0),(11,.tuple #[Bo false]),(12,Bo false)] (Jc (Ja (Je ?_)))
 refine Jbk ?_
 refine JaT (J2 (Jaf (JW (Ja ?_))))
 refine Jg [0] [(6,I (-1))] (Jk ?_)
 refine Jl [0] [I (-1)] (Jw (Jt.le_refl _) ?_)
 have hf_:(Jey s p_f t) = (-1):=by
  unfold Jey;rw [← hn];exact JpW hp1
 · (try rw [hf_]);(simp only [JM];done)
theorem Jk7 (G:Jt) (s:List UInt8) (k_f:FuncId) (caps_f:Array Value) (p_f:Int → Bool) (hk_f:Jgc Tryz.prog k_f) (h_f:∀ (x0:Int),Con Tryz.prog k_f (#[.int .i32 x0] ++ caps_f) G [] (fun u _ _=>u = Bo (p_f x0))) :Con Tryz.prog 120 #[Sr s,.func (.func k_f) #[] caps_f] G [] (fun u G' L'=>u = I (JeR s p_f)):=by
 refine JL Tryz.func120 8 [(0,Sr s),(1,.func (.func k_f) #[] caps_f)] rfl (fun w0 G0=>?_)
 refine Jg [0] [(0,Sr s),(1,.func (.func k_f) #[] caps_f)] (Je (Jb ?_))
 refine Jd [0,0] [(5,Sr s),(6,.func (.func k_f) #[] caps_f)] ?_
 refine Ji 7 (I (Jey s p_f true)) (JlU G s k_f caps_f p_f hk_f h_f true) ?_
 refine Jd [0] [(4,I (Jey s p_f true))] (Jc (Ja (Jk ?_)))
 refine Jl [0] [I (Jey s p_f true)] (Jw (Jt.le_refl _) ?_)
 have hf_:(JeR s p_f) = (Jey s p_f true):=by
  rfl
 · (try rw [hf_]);(simp only [JM];done)
theorem Jm3 (G:Jt) (s:List UInt8) (k_f:FuncId) (caps_f:Array Value) (p_f:Int → Bool) (hk_f:Jgc Tryz.prog k_f) (h_f:∀ (x0:Int),Con Tryz.prog k_f (#[.int .i32 x0] ++ caps_f) G [] (fun u _ _=>u = Bo (p_f x0))) :Con Tryz.prog 82 #[Sr s,.func (.func k_f) #[] caps_f] G [] (fun u G' L'=>u = Bo (JfV s p_f)):=by
 refine JL Tryz.func82 9 [(0,Sr s),(1,.func (.func k_f) #[] caps_f)] rfl (fun w0 G0=>?_)
 refine Jg [0] [(0,Sr s),(1,.func (.func k_f) #[] caps_f)] (Je (Jb ?_))
 refine Jd [0,0] [(5,Sr s),(6,.func (.func k_f) #[] caps_f)] ?_
 refine Ji 7 (I (JeR s p_f)) (Jk7 G s k_f caps_f p_f hk_f h_f) ?_
 refine Jd [0,0] [(4,Bo (decide (JeR s p_f ≥ 0)))] (Jc (Ja (Jk ?_)))
 refine Jl [0] [Bo (decide (JeR s p_f ≥ 0))] (Jw (Jt.le_refl _) ?_)
 have hf_:(JfV s p_f) = (decide (JeR s p_f ≥ 0)):=by
  rfl
 · (try rw [hf_]);(simp only [JM];done)
theorem JoJ (G:Jt) (r:Int) :Con Tryz.prog 81 #[.int .i32 r] G [] (fun u G' L'=>u = Bo (Jga r)):=by
 refine JL Tryz.func81 17 [(0,.int .i32 r)] rfl (fun w0 G0=>?_)
 refine Jg [0] [(0,.int .i32 r)] (Je (Jb ?_))
 refine Jd [0,0,0] [(0,.int .i32 r),(5,Bo (decide (r ≥ 97)))] ?_
 refine Jay (decide (r ≥ 97)) (fun bb=>[(0,.int .i32 r),(5,Bo bb)]) [0,0,0] [1,1,0] (fun bb=>[(0,.int .i32 r),(8,Bo (bb && (decide (r ≤ 122))))]) ?_
 refine Jd [0] [(0,.int .i32 r),(9,Bo ((decide (r ≥ 97)) && (decide (r ≤ 122))))] ?_
 refine Jb8 (fun bb=>[(0,.int .i32 r),(9,Bo bb)]) ((decide (r ≥ 97)) && (decide (r ≤ 122))) (fun h1=>?_) (fun h1=>?_)
 try simp only [BB] at h1
 refine Jd [1,1,1,1,1,1,0,0] [(2,Bo true)] (Jc (Ja (Jk ?_)))
 refine Jl [0] [Bo true] (Jw (Jt.le_refl _) ?_)
 have hf_:(Jga r) = true:=by
  rw [Bool.eq_iff_iff];unfold Jga;simp;omega
 · (try rw [hf_]);(simp only [JM];done)
 try simp only [BB] at h1
 refine Jd [0,0,0] [(0,.int .i32 r),(9,Bo false),(12,Bo (decide (r ≥ 48)))] ?_
 refine Jay (decide (r ≥ 48)) (fun bb=>[(0,.int .i32 r),(9,Bo false),(12,Bo bb)]) [0,0,0] [1,1,0] (fun bb=>[(9,Bo false),(15,Bo (bb && (decide (r ≤ 57))))]) ?_
 refine Jd [0,0] [(2,Bo ((decide (r ≥ 48)) && (decide (r ≤ 57))))] (Jc (Ja (Jk ?_)))
 refine Jl [0] [Bo ((decide (r ≥ 48)) && (decide (r ≤ 57)))] (Jw (Jt.le_refl _) ?_)
 have hf_:(Jga r) = ((decide (r ≥ 48)) && (decide (r ≤ 57))):=by
  rw [Bool.eq_iff_iff];unfold Jga;simp;omega
 · (try rw [hf_]);(simp only [JM];done)
theorem JlV (G:Jt) (r:Int) (b_i:Nat) (hz_i:∀ j v,([.func (.func 81) #[] #[]]:List Value)[j]? = some v → G b_i (0 + j) = some v) :Con Tryz.prog 83 #[.int .i32 r,Pt b_i 0] G [] (fun u G' L'=>u = Bo (JeL r)):=by
 refine JL Tryz.func83 8 [(0,.int .i32 r),(1,Pt b_i 0)] rfl (fun w0 G0=>?_)
 refine Jg [0] [(0,.int .i32 r),(1,Pt b_i 0)] (Je (Jb ?_))
 refine J6 (o':=0) 4 158 (cs:=[.func (.func 81) #[] #[]]) 0 (.func (.func 81) #[] #[]) hz_i ?_
 refine Jd [0] [(4,.func (.func 81) #[] #[]),(5,.int .i32 r)] ?_
 refine Ji 6 (Bo (Jga r)) (JoJ G r) ?_
 refine Jd [0,0] [(3,Bo (!(Jga r)))] (Jc (Ja (Jk ?_)))
 refine Jl [0] [Bo (!(Jga r))] (Jw (Jt.le_refl _) ?_)
 have hf_:(JeL r) = (!(Jga r)):=by
  rfl
 · (try rw [hf_]);(simp only [JM];done)
theorem Jde (G:Jt) (s:List UInt8) :Con Tryz.prog 41 #[Sr s] G [] (fun u G' L'=>u = Bo (JaC s)):=by
 refine JL Tryz.func41 18 [(0,Sr s)] rfl (fun w0 G0=>?_)
 refine Jg [0] [(0,Sr s)] (Je (Jb ?_))
 refine Ju 3 #[.nilFunc] 158 (fun b1=>?_)
 refine Jaa [3] [(0,Sr s),(3,Pt b1 0)] [[Sg b1 0 [.func (.func 81) #[] #[]]]] (Jc (Ja (Je (Jb ?_))))
 refine Jd [0,0,0,0] [(0,Sr s),(3,Pt b1 0),(7,Bo (decide (((s).length:Int) ≥ 1)))] ?_
 refine Jay (decide (((s).length:Int) ≥ 1)) (fun bb=>[(0,Sr s),(3,Pt b1 0),(7,Bo bb)]) [0,0,0,0] [1,1,1,0] (fun bb=>[(0,Sr s),(3,Pt b1 0),(11,Bo (bb && (decide (((s).length:Int) ≤ 12))))]) ?_
 refine Jd [0] [(0,Sr s),(3,Pt b1 0),(12,Bo ((decide (((s).length:Int) ≥ 1)) && (decide (((s).length:Int) ≤ 12))))] ?_
 refine Jb8 (fun bb=>[(0,Sr s),(3,Pt b1 0),(12,Bo bb)]) ((decide (((s).length:Int) ≥ 1)) && (decide (((s).length:Int) ≤ 12))) (fun h1=>?_) (fun h1=>?_)
 try simp only [BB] at h1
 refine Jd [0,0] [(12,Bo true),(13,Sr s),(14,.func (.func 83) #[] #[Pt b1 0])] ?_
 refine JbH (b:=b1) (o:=0) (cs:=[.func (.func 81) #[] #[]]) 0 (fun G1 hl1 hz1=>?_)
 refine Ji 15 (Bo (JfV s (fun x0=>JeL x0))) (Jm3 G1 s 83 #[Pt b1 0] (fun x0=>JeL x0) (fun _ _=>by kernel_rfl) (fun x0=>JlV G1 x0 b1 hz1)) ?_
 refine Jd [0,0,0] [(2,Bo (!(JfV s (fun x0=>JeL x0))))] (Jc (Ja (Jk ?_)))
 refine Jl [0] [Bo (!(JfV s (fun x0=>JeL x0)))] (Jw hl1 ?_)
 have hf_:(JaC s) = (!(JfV s (fun x0=>JeL x0))):=by
  unfold JaC;(try simp_all) <;> (intros;omega)
 · (try rw [hf_]);(simp only [JM];done)
 try simp only [BB] at h1
 refine Jd [1,1,1,1,0,0] [(2,Bo false)] (Jc (Ja (Jk ?_)))
 refine Jl [0] [Bo false] (Jw (Jt.le_refl _) ?_)
 have hf_:(JaC s) = false:=by
  unfold JaC;(try simp_all) <;> (intros;omega)
 · (try rw [hf_]);(simp only [JM];done)
theorem JlW (G:Jt) (a_l:Option Addr) (c_l:Nat) (l:List (List UInt8)) (h_l:RS ES G a_l c_l l) :Con Tryz.prog 90 #[Sl a_l l.length c_l] G [] (fun u G' L'=>u = .tuple #[Sr ((Jek l).1),I ((Jek l).2)]):=by
 refine JL Tryz.func90 34 [(0,Sl a_l l.length c_l)] rfl (fun w0 G0=>?_)
 refine Jg [0,0] [(0,Sl a_l l.length c_l)] (Je ?_)
 refine Jg [0,0,0] [(0,Sl a_l l.length c_l),(9,Bo (decide ((l.length:Int) > 60)))] ?_
 refine Jo (decide ((l.length:Int) > 60)) (fun h1=>?_) (fun h1=>?_)
 try simp only [BB] at h1
 refine Jg [0,0] [(2,Sr ([])),(3,I 2)] (Jk (Jh ?_))
 refine Jl [0,0] [Sr ([]),I 2] (Jw (Jt.le_refl _) ?_)
 have hf_:(Jek l) = ([],2):=by
  unfold Jek;(rw [if_pos (by omega)];done)
 · (try rw [hf_]);(simp only [JM];done)
 try simp only [BB] at h1
 refine Jn (Ja (Je (Jb ?_)))
 refine JoC 4 #[.pointer none,Sl none 0 0] 213 (fun b1=>?_)
 refine Jc (Ja (Je ?_))
 refine Jg [0,0,0] [(4,Pt b1 0),(10,Sl a_l l.length c_l),(11,I (l.length:Int)),(12,I 0)] (Jy ?_)
 refine Jee ?_
 have hlm_h_l:l.length ≤ 9223372036854775807:=Nat.le_trans (h_l).le (h_l).max
 refine Ja8 (σ:=Nat × Value × Option Addr × Nat × List Seg × List UInt8 × Jt) (fun q_=>(Jt.le G q_.2.2.2.2.2.2) ∧ (q_.1 ≤ l.length) ∧ (q_.2.1 = .pointer none ∨ q_.2.1 = Pt b1 0) ∧ (JfR 5 q_.2.2.1 q_.2.2.2.1 q_.2.2.2.2.2.1 q_.2.2.2.2.1) ∧ (q_.2.2.2.2.2.1 = JjS (l.take q_.1)) ∧ (q_.2.2.2.2.2.1.length ≤ 600) ∧ (Jhn 0 l = Jhn q_.2.2.2.2.2.1.length (l.drop q_.1))) (fun q_=>[(4,Pt b1 0),(10,Sl a_l l.length c_l),(11,I (l.length:Int)),(12,I (q_.1:Int))]) (fun q_=>q_.2.2.2.2.2.2) (fun q_=>[q_.2.2.2.2.1,[SgT 213 b1 0 [q_.2.1,Sl q_.2.2.1 q_.2.2.2.2.2.1.length q_.2.2.2.1]]]) (fun q_=>l.length - q_.1) (0,.pointer none,none,0,[],[],G) ⟨(Jt.le_refl _),(by (try dsimp only);exact Nat.zero_le _),(.inl rfl),(JfR.nil _),rfl,(by (try dsimp only);simp),rfl⟩ (fun q_ hs=>?_)
 obtain ⟨i,A,a,c,r,t,g⟩:=q_
 obtain ⟨hle,hi,hA,hb,ht,hl6,hk⟩:=hs
 dsimp only at hle hi hA hb ht hl6 hk
 refine JaJ (fr':=[(4,Pt b1 0),(10,Sl a_l l.length c_l),(11,I (l.length:Int)),(12,I (i:Int))]) (L':=[r,[SgT 213 b1 0 [A,Sl a t.length c]]]) rfl rfl ?_
 refine Jg [0] [(4,Pt b1 0),(10,Sl a_l l.length c_l),(11,I (l.length:Int)),(12,I (i:Int)),(13,Bo (decide ((i:Int) < (l.length:Int))))] (Je ?_)
 refine Jo (decide ((i:Int) < (l.length:Int))) (fun h2=>?_) (fun h2=>?_)
 try simp only [BB] at h2
 refine Jn (Ja (Je (Jy (Je (Jb ?_)))))
 obtain ⟨b2,o1,rfl⟩:=RS.addr (h_l.mono hle) (k:=i) (by omega)
 obtain ⟨x1,hx1⟩:=Jb1 (l:=l) (k:=i) (by omega)
 obtain ⟨_,⟨rfl,_⟩,hc1⟩:=RS.get (h_l.mono hle) hx1
 refine Jac (b:=b2) (off:=o1) (len:=l.length) (cap:=c_l) (ik:=.i64) 14 9 1 i (by omega) ?_
 refine J6 15 9 (cs:=[Sr x1]) 0 (Sr x1) hc1 ?_
 refine Jd [0] [(4,Pt b1 0),(6,Sr x1),(10,Sl (At b2 o1) l.length c_l),(11,I (l.length:Int)),(12,I (i:Int))] (Jc (Ja (Je (Je (Jb ?_)))))
 refine Jd [0,0] [(4,Pt b1 0),(6,Sr x1),(10,Sl (At b2 o1) l.length c_l),(11,I (l.length:Int)),(12,I (i:Int)),(17,I ((x1).length:Int))] ?_
 refine JE 0 ?_
 refine JE 1 ?_
 refine Jbi (Ls:=[[SgT 213 b1 0 [A,Sl a t.length c]],r]) (Lr:=[]) 18 (JpY g b1 A a c t r hb hA) (fun v G1 L1 hl1 hp=>?_)
 obtain ⟨rfl,rfl⟩:=hp
 refine Jd [0,0] [(4,Pt b1 0),(6,Sr x1),(10,Sl (At b2 o1) l.length c_l),(11,I (l.length:Int)),(12,I (i:Int)),(20,Bo (decide (((x1).length:Int) > IntKind.i64.wrap (598 - ((t).length:Int)))))] ?_
 have e1:IntKind.i64.wrap (598 - ((t).length:Int)) = 598 - ((t).length:Int):=IntWalk.i64_in _ (by omega)
 refine J1 (fr':=[(4,Pt b1 0),(6,Sr x1),(10,Sl (At b2 o1) l.length c_l),(11,I (l.length:Int)),(12,I (i:Int)),(20,Bo (decide (((x1).length:Int) > 598 - ((t).length:Int))))]) (L':=[[SgT 213 b1 0 [A,Sl a t.length c]],r]) (by simp only [e1]) (by rfl) ?_
 clear e1
 refine Jc (Ja ?_)
 refine Jo (decide (((x1).length:Int) > 598 - ((t).length:Int))) (fun h3=>?_) (fun h3=>?_)
 try simp only [BB] at h3
 refine Jg [0,0] [(2,Sr ([])),(3,I 2)] (Jk (Jh (Js (Jh (Jbc (Js (Jh ?_)))))))
 refine Jl [0,0] [Sr ([]),I 2] (Jw (Jt.le_trans hle hl1) ?_)
 have hf_:(Jek l) = ([],2):=by
  unfold Jek;(rw [if_neg (by omega),hk];(rw [JpX hx1 (by omega)];rfl))
 · (try rw [hf_]);(simp only [JM];done)
 try simp only [BB] at h3
 refine Jn (Ja (Je (Jb ?_)))
 refine Jd [0,0,0,0] [(4,Pt b1 0),(6,Sr x1),(10,Sl (At b2 o1) l.length c_l),(11,I (l.length:Int)),(12,I (i:Int)),(24,Y (IntKind.u8.wrap (((x1).length:Int).fdiv (2 ^ 8))))] ?_
 refine JE 1 ?_
 refine JE 1 ?_
 refine Jbi (Ls:=[[SgT 213 b1 0 [A,Sl a t.length c]],r]) (Lr:=[]) 25 (Jgl G1 b1 A a c t r hb hA (IntKind.u8.wrap (((x1).length:Int).fdiv (2 ^ 8))) (u8w _) (by omega)) (fun v G2 L1 hl2 hp=>?_)
 obtain ⟨a1,c1,r1,rfl,hb1,rfl⟩:=hp
 refine Jc (Ja (Je (Jb ?_)))
 refine Jd [0,0,0] [(4,Pt b1 0),(6,Sr x1),(10,Sl (At b2 o1) l.length c_l),(11,I (l.length:Int)),(12,I (i:Int)),(28,Y (IntKind.u8.wrap ((x1).length:Int)))] ?_
 refine JE 1 ?_
 refine JE 1 ?_
 refine Jbi (Ls:=[[SgT 213 b1 0 [Pt b1 0,Sl a1 ((t ++ [JdV (IntKind.u8.wrap (((x1).length:Int).fdiv (2 ^ 8)))]).length) c1]],r1]) (Lr:=[]) 29 (Jgl G2 b1 (Pt b1 0) a1 c1 (t ++ [JdV (IntKind.u8.wrap (((x1).length:Int).fdiv (2 ^ 8)))]) r1 hb1 (.inr rfl) (IntKind.u8.wrap ((x1).length:Int)) (u8w _) (by (simp only [List.length_append,List.length_cons,List.length_nil];omega))) (fun v G3 L1 hl3 hp=>?_)
 obtain ⟨a2,c2,r2,rfl,hb2,rfl⟩:=hp
 refine Jc (Ja (Jb ?_))
 refine Jd [0] [(4,Pt b1 0),(10,Sl (At b2 o1) l.length c_l),(11,I (l.length:Int)),(12,I (i:Int)),(30,Sr x1)] ?_
 refine JE 1 ?_
 refine JE 1 ?_
 refine Jbi (Ls:=[[SgT 213 b1 0 [Pt b1 0,Sl a2 (((t ++ [JdV (IntKind.u8.wrap (((x1).length:Int).fdiv (2 ^ 8)))]) ++ [JdV (IntKind.u8.wrap ((x1).length:Int))]).length) c2]],r2]) (Lr:=[]) 31 (JhX G3 b1 (Pt b1 0) a2 c2 ((t ++ [JdV (IntKind.u8.wrap (((x1).length:Int).fdiv (2 ^ 8)))]) ++ [JdV (IntKind.u8.wrap ((x1).length:Int))]) r2 hb2 (.inr rfl) x1 (by (simp only [List.length_append,List.length_cons,List.length_nil];omega))) (fun v G4 L1 hl4 hp=>?_)
 obtain ⟨a3,c3,r3,rfl,hb3,rfl⟩:=hp
 refine Jc (JK (Ja (Jb ?_)))
 refine Jd [0,0] [(4,Pt b1 0),(10,Sl (At b2 o1) l.length c_l),(11,I (l.length:Int)),(12,I (IntKind.i64.wrap ((i:Int) + 1)))] ?_
 have e2:IntKind.i64.wrap ((i:Int) + 1) = (i:Int) + 1:=IntWalk.i64_in _ (by omega)
 refine J1 (fr':=[(4,Pt b1 0),(10,Sl (At b2 o1) l.length c_l),(11,I (l.length:Int)),(12,I ((i:Int) + 1))]) (L':=[[SgT 213 b1 0 [Pt b1 0,Sl a3 ((((t ++ [JdV (IntKind.u8.wrap (((x1).length:Int).fdiv (2 ^ 8)))]) ++ [JdV (IntKind.u8.wrap ((x1).length:Int))]) ++ x1).length) c3]],r3]) (by simp only [e2]) (by rfl) ?_
 clear e2
 refine Jc ?_
 refine Jj 0 ?_
 refine Jj 1 ?_
 refine JbT [r3,[SgT 213 b1 0 [Pt b1 0,Sl a3 ((((t ++ [JdV (IntKind.u8.wrap (((x1).length:Int).fdiv (2 ^ 8)))]) ++ [JdV (IntKind.u8.wrap ((x1).length:Int))]) ++ x1).length) c3]]] (.cons_cons _ (.cons_cons _ .slnil)) ?_
 exact Jba (i + 1,Pt b1 0,a3,c3,r3,((t ++ [JdV (IntKind.u8.wrap (((x1).length:Int).fdiv (2 ^ 8)))]) ++ [JdV (IntKind.u8.wrap ((x1).length:Int))]) ++ x1,G4) ⟨(Jt.le_trans hle (Jt.le_trans (Jt.le_trans (Jt.le_trans hl1 hl2) hl3) hl4)),(by omega),(.inr rfl),hb3,(by rw [ht];exact JoI hx1),(by simp only [List.length_append,List.length_cons,List.length_nil];omega),(by rw [hk,Jm2 (n:=t.length) hx1 (by omega)];simp [Nat.add_assoc,Nat.add_comm,Nat.add_left_comm])⟩ (by (try dsimp only);omega)
 try simp only [BB] at h2
 refine JaT (J2 (Jaf (JW (Ja (Je (Jb ?_))))))
 refine JE 0 ?_
 refine JE 1 ?_
 refine Jbi (Ls:=[[SgT 213 b1 0 [A,Sl a t.length c]],r]) (Lr:=[]) 33 (JlT g b1 A a c t r hb hA) (fun v G5 L1 hl5 hp=>?_)
 obtain ⟨rfl,rfl⟩:=hp
 refine Jd [0,0] [(2,Sr t),(3,I 0)] (Jc (Ja (Jk ?_)))
 refine Jl [0,0] [Sr t,I 0] (Jw (Jt.le_trans hle hl5) ?_)
 have hf_:(Jek l) = (t,0):=by
  unfold Jek;(rw [if_neg (by omega),hk];(rw [List.drop_eq_nil_of_le (by omega),ht,List.take_of_length_le (by omega)];rfl))
 · (try rw [hf_]);(simp only [JM];done)
end Go.Proofs.YtnnlpbjdignhaaaGreatDoor
