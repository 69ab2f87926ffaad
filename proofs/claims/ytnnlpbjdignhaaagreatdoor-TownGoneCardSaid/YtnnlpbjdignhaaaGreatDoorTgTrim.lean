import Derived.Test.YtnnlpbjdignhaaaGreatDoorTgTy
namespace Go.Proofs.YtnnlpbjdignhaaaGreatDoor
open Go.Tx
set_option linter.unusedVariables false
set_option linter.unusedSimpArgs false
def isB (b:UInt8):Bool:=b == 48 || b == 49
def Z1 (c:Int):Bool:=decide (c=48) || decide (c=49)
theorem V2 (b:UInt8):Z1 (b.toNat:Int)=isB b:=by
 have e1:((b.toNat:Int)=48) ↔ b=48:=⟨fun h=>UInt8.toNat_inj.1 (by have q:b.toNat=48:=(by omega);simpa using q),fun h=>by subst h;rfl⟩
 have e2:((b.toNat:Int)=49) ↔ b=49:=⟨fun h=>UInt8.toNat_inj.1 (by have q:b.toNat=49:=(by omega);simpa using q),fun h=>by subst h;rfl⟩
 unfold Z1 isB;rw [Bool.eq_iff_iff];simp [e1,e2]
def Vf (s:List UInt8):List UInt8:=s.dropWhile isB
def Yb (s:List UInt8):List UInt8:=(s.reverse.dropWhile isB).reverse
def Ja4 (s:List UInt8):List UInt8:=Vf (Yb s)
theorem Jh6 {s:List UInt8} {y:UInt8} (h:s[0]? = some y) (hb:isB y=true):Vf s=Vf (s.drop 1):=by
 cases s with
 | nil=>cases h
 | cons x r=>simp at h;subst h;simp [Vf,List.dropWhile_cons,hb]
theorem Jj4 {s:List UInt8} {y:UInt8} (h:s[0]? = some y) (hb:isB y=false):Vf s=s:=by
 cases s with
 | nil=>cases h
 | cons x r=>simp at h;subst h;simp [Vf,List.dropWhile_cons,hb]
theorem Ji9 {s:List UInt8} {y:UInt8} (h:s[s.length-1]? = some y):s=s.take (s.length-1)++[y]:=by
 obtain ⟨hl,e⟩:=List.getElem?_eq_some_iff.1 h
 have:=List.take_append_drop (s.length-1) s
 rw [List.drop_eq_getElem_cons hl,e,List.drop_eq_nil_of_le (by omega)] at this
 exact this.symm
theorem Jh7 {s:List UInt8} {y:UInt8} (h:s[s.length-1]? = some y) (hb:isB y=true):Yb s=Yb (s.take (s.length-1)):=by
 have e:=Ji9 h
 generalize hr:s.take (s.length-1)=r at *
 rw [e];unfold Yb;rw [List.reverse_append];simp [List.dropWhile_cons,hb]
theorem Jj5 {s:List UInt8} {y:UInt8} (h:s[s.length-1]? = some y) (hb:isB y=false):Yb s=s:=by
 have e:=Ji9 h
 generalize hr:s.take (s.length-1)=r at *
 rw [e];unfold Yb;rw [List.reverse_append];simp [List.dropWhile_cons,hb]
theorem Jls {s:List UInt8} (h:((s.length:Nat):Int)≤0):s=[]:=List.eq_nil_of_length_eq_zero (by omega)
theorem Jj6 {s:List UInt8} (h:((s.length:Nat):Int)≤0):Vf s=s:=by rw [Jls h];rfl
theorem Jj7 {s:List UInt8} (h:((s.length:Nat):Int)≤0):Yb s=s:=by rw [Jls h];rfl
theorem Jaa {p:UInt8→Bool}:∀ {s:List UInt8},s.dropWhile p=[] ↔ ∀ b∈s,p b=true
 | []=>by simp
 | x::r=>by
  rw [List.dropWhile_cons]
  split
  ·
   rename_i h;rw [Jaa];simp [h]
  ·
   rename_i h;simp [h]
theorem Ja5 {p:UInt8→Bool}:∀ {s:List UInt8} {x:UInt8},(s.dropWhile p).head? = some x→p x=false
 | [],_,h=>by cases h
 | y::r,x,h=>by
  rw [List.dropWhile_cons] at h
  split at h
  ·
   exact Ja5 h
  ·
   rename_i hy;simp at h;subst h;simpa using hy
theorem Jfr {s:List UInt8}:Ja4 s=[] ↔ ∀ b∈s,isB b=true:=by
 unfold Ja4 Vf
 rw [Jaa]
 constructor
 ·
  intro h
  by_cases e:s.reverse.dropWhile isB=[]
  ·
   rw [Jaa] at e;simpa using e
  ·
   exfalso
   obtain ⟨x,hx⟩:∃ x,(s.reverse.dropWhile isB).head? = some x:=by
    cases hh:s.reverse.dropWhile isB with
    | nil=>exact absurd hh e
    | cons x r=>exact ⟨x,rfl⟩
   have h1:=Ja5 hx
   have h2:x∈Yb s:=by unfold Yb;rw [List.mem_reverse];exact List.mem_of_mem_head? hx
   rw [h x h2] at h1;cases h1
 ·
  intro h b hb
  unfold Yb at hb
  rw [List.mem_reverse] at hb
  exact h b (List.mem_reverse.1 ((List.dropWhile_sublist _).subset hb))
theorem Jj8 (s:List UInt8):(Yb s).length≤s.length:=by
 unfold Yb;rw [List.length_reverse];have:=(List.dropWhile_sublist (p:=isB) (l:=s.reverse)).length_le;rw [List.length_reverse] at this;exact this
def JcI:List Value:=(List.range 256).map fun (j:Nat)=>Bo (Z1 (j:Int))
theorem Jlt {k:Nat} (hk:k<256):JcI[k]? = some (Bo (Z1 (k:Int))):=by
 unfold JcI;simp [hk]
theorem asc_at {G:Jt} {b k:Nat} {cs:List Value} (hz:∀ j v,cs[j]? = some v→G b (0+j)=some v) (hc:cs=JcI) (hk:k<256):∀ j v,[Bo (Z1 (k:Int))][j]? = some v→G b (0+k*1+j)=some v:=by
 intro j v hv
 cases j with
 | zero =>
  simp at hv;subst hv hc
  have:=hz k _ (Jlt hk)
  rw [Nat.mul_one,Nat.add_zero];exact this
 | succ j=>simp at hv
set_option maxRecDepth 4000 in
theorem Jh8 (G:Jt):QI Tryz.prog 166 #[Sr [48,49]] G [] (fun u G' L'=>u=.tuple #[.agg JcI.toArray,Bo true]):=by
 refine JK Tryz.func166 21 [(0,Sr ([48,49]))] rfl (fun w0 G0=>?_)
 refine Je (Jb (Ju 2 #[Bo false,Bo false,Bo false,Bo false,Bo false,Bo false,Bo false,Bo false,Bo false,Bo false,Bo false,Bo false,Bo false,Bo false,Bo false,Bo false,Bo false,Bo false,Bo false,Bo false,Bo false,Bo false,Bo false,Bo false,Bo false,Bo false,Bo false,Bo false,Bo false,Bo false,Bo false,Bo false,Bo false,Bo false,Bo false,Bo false,Bo false,Bo false,Bo false,Bo false,Bo false,Bo false,Bo false,Bo false,Bo false,Bo false,Bo false,Bo false,Bo false,Bo false,Bo false,Bo false,Bo false,Bo false,Bo false,Bo false,Bo false,Bo false,Bo false,Bo false,Bo false,Bo false,Bo false,Bo false,Bo false,Bo false,Bo false,Bo false,Bo false,Bo false,Bo false,Bo false,Bo false,Bo false,Bo false,Bo false,Bo false,Bo false,Bo false,Bo false,Bo false,Bo false,Bo false,Bo false,Bo false,Bo false,Bo false,Bo false,Bo false,Bo false,Bo false,Bo false,Bo false,Bo false,Bo false,Bo false,Bo false,Bo false,Bo false,Bo false,Bo false,Bo false,Bo false,Bo false,Bo false,Bo false,Bo false,Bo false,Bo false,Bo false,Bo false,Bo false,Bo false,Bo false,Bo false,Bo false,Bo false,Bo false,Bo false,Bo false,Bo false,Bo false,Bo false,Bo false,Bo false,Bo false,Bo false,Bo false,Bo false,Bo false,Bo false,Bo false,Bo false,Bo false,Bo false,Bo false,Bo false,Bo false,Bo false,Bo false,Bo false,Bo false,Bo false,Bo false,Bo false,Bo false,Bo false,Bo false,Bo false,Bo false,Bo false,Bo false,Bo false,Bo false,Bo false,Bo false,Bo false,Bo false,Bo false,Bo false,Bo false,Bo false,Bo false,Bo false,Bo false,Bo false,Bo false,Bo false,Bo false,Bo false,Bo false,Bo false,Bo false,Bo false,Bo false,Bo false,Bo false,Bo false,Bo false,Bo false,Bo false,Bo false,Bo false,Bo false,Bo false,Bo false,Bo false,Bo false,Bo false,Bo false,Bo false,Bo false,Bo false,Bo false,Bo false,Bo false,Bo false,Bo false,Bo false,Bo false,Bo false,Bo false,Bo false,Bo false,Bo false,Bo false,Bo false,Bo false,Bo false,Bo false,Bo false,Bo false,Bo false,Bo false,Bo false,Bo false,Bo false,Bo false,Bo false,Bo false,Bo false,Bo false,Bo false,Bo false,Bo false,Bo false,Bo false,Bo false,Bo false,Bo false,Bo false,Bo false,Bo false,Bo false,Bo false,Bo false,Bo false,Bo false,Bo false,Bo false,Bo false,Bo false,Bo false,Bo false,Bo false,Bo false,Bo false,Bo false,Bo false,Bo false,Bo false,Bo false,Bo false,Bo false,Bo false,Bo false] 259 (fun b1=>Jd [0] [(0,Sr ([48,49])),(2,Pt b1 0)] (Jc (Ja (Je (Jg [0] [(0,Sr ([48,49])),(2,Pt b1 0),(4,I 0)] (Jz (Jcu 3 (Q7 (Je (Jg [0,0,0,0] [(0,Sr ([48,49])),(2,Pt b1 0),(4,I 0),(9,Bo true)] (JZ (Jn (Ja (Je (Jz (Jg [0,0,0,0] [(0,Sr ([48,49])),(2,Pt b1 0),(4,I 0),(5,Y 48)] (Je ?_)))))))))))))))))))
 refine Jg [0,0] [(0,Sr ([48,49])),(2,Pt b1 0),(4,I 0),(5,Y 48),(16,Bo false)] (Qw (Jn (Ja (Jb (Kd [0,0,3] [(0,Sr ([48,49])),(2,Pt b1 0),(4,I 0)] [[Sg b1 0 [Bo false,Bo false,Bo false,Bo false,Bo false,Bo false,Bo false,Bo false,Bo false,Bo false,Bo false,Bo false,Bo false,Bo false,Bo false,Bo false,Bo false,Bo false,Bo false,Bo false,Bo false,Bo false,Bo false,Bo false,Bo false,Bo false,Bo false,Bo false,Bo false,Bo false,Bo false,Bo false,Bo false,Bo false,Bo false,Bo false,Bo false,Bo false,Bo false,Bo false,Bo false,Bo false,Bo false,Bo false,Bo false,Bo false,Bo false,Bo false,Bo true,Bo false,Bo false,Bo false,Bo false,Bo false,Bo false,Bo false,Bo false,Bo false,Bo false,Bo false,Bo false,Bo false,Bo false,Bo false,Bo false,Bo false,Bo false,Bo false,Bo false,Bo false,Bo false,Bo false,Bo false,Bo false,Bo false,Bo false,Bo false,Bo false,Bo false,Bo false,Bo false,Bo false,Bo false,Bo false,Bo false,Bo false,Bo false,Bo false,Bo false,Bo false,Bo false,Bo false,Bo false,Bo false,Bo false,Bo false,Bo false,Bo false,Bo false,Bo false,Bo false,Bo false,Bo false,Bo false,Bo false,Bo false,Bo false,Bo false,Bo false,Bo false,Bo false,Bo false,Bo false,Bo false,Bo false,Bo false,Bo false,Bo false,Bo false,Bo false,Bo false,Bo false,Bo false,Bo false,Bo false,Bo false,Bo false,Bo false,Bo false,Bo false,Bo false,Bo false,Bo false,Bo false,Bo false,Bo false,Bo false,Bo false,Bo false,Bo false,Bo false,Bo false,Bo false,Bo false,Bo false,Bo false,Bo false,Bo false,Bo false,Bo false,Bo false,Bo false,Bo false,Bo false,Bo false,Bo false,Bo false,Bo false,Bo false,Bo false,Bo false,Bo false,Bo false,Bo false,Bo false,Bo false,Bo false,Bo false,Bo false,Bo false,Bo false,Bo false,Bo false,Bo false,Bo false,Bo false,Bo false,Bo false,Bo false,Bo false,Bo false,Bo false,Bo false,Bo false,Bo false,Bo false,Bo false,Bo false,Bo false,Bo false,Bo false,Bo false,Bo false,Bo false,Bo false,Bo false,Bo false,Bo false,Bo false,Bo false,Bo false,Bo false,Bo false,Bo false,Bo false,Bo false,Bo false,Bo false,Bo false,Bo false,Bo false,Bo false,Bo false,Bo false,Bo false,Bo false,Bo false,Bo false,Bo false,Bo false,Bo false,Bo false,Bo false,Bo false,Bo false,Bo false,Bo false,Bo false,Bo false,Bo false,Bo false,Bo false,Bo false,Bo false,Bo false,Bo false,Bo false,Bo false,Bo false,Bo false,Bo false,Bo false,Bo false,Bo false,Bo false,Bo false,Bo false,Bo false,Bo false,Bo false,Bo false,Bo false,Bo false,Bo false,Bo false,Bo false]]] (Jc (JN (Ja (Jb (Jd [0,0,0] [(0,Sr ([48,49])),(2,Pt b1 0),(4,I 1)] (Jc (Wm (Q7 (Je (Jg [0,0,0,0] [(0,Sr ([48,49])),(2,Pt b1 0),(4,I 1),(9,Bo true)] (JZ (Jn (Ja (Je (Jz ?_))))))))))))))))))))
 refine Jg [0,0,0,0] [(0,Sr ([48,49])),(2,Pt b1 0),(4,I 1),(5,Y 49)] (Je (Jg [0,0] [(0,Sr ([48,49])),(2,Pt b1 0),(4,I 1),(5,Y 49),(16,Bo false)] (Qw (Jn (Ja (Jb (Kd [0,0,3] [(0,Sr ([48,49])),(2,Pt b1 0),(4,I 1)] [[Sg b1 0 JcI]] (Jc (JN (Ja (Jb (Jd [0,0,0] [(0,Sr ([48,49])),(2,Pt b1 0),(4,I 2)] (Jc (Wm (Q7 (Je (Jg [0,0,0,0] [(0,Sr ([48,49])),(2,Pt b1 0),(4,I 2),(9,Bo false)] (Qw ?_))))))))))))))))))
 refine K2 (J3 (J3 (JV (Ja (Jg [2,3,0] [(2,Pt b1 0),(3,Bo true)] (Jk (Jl [0,0] [.agg JcI.toArray,Bo true] (Jv (Jt.le_refl _) ?_))))))))
 rfl
theorem Jd9 (G:Jt) (b_as:Nat) (hz_as:∀ j v,(JcI:List Value)[j]? = some v→G b_as (0+j)=some v) (c:Int) (hw_c:0≤c∧c<256) :QI Tryz.prog 188 #[Pt b_as 0,Y c] G [] (fun u G' L'=>u=Bo (Z1 c)):=by
 refine JK Tryz.func188 10 [(0,Pt b_as 0),(1,Y c)] rfl (fun w0 G0=>?_)
 refine Jg [0] [(0,Pt b_as 0),(1,Y c)] (Je (Jb (Jd [0,0,0] [(6,Y c),(7,Pt b_as 0)] ?_)))
 obtain ⟨kn1,hkn1⟩:∃ k_:Nat,c=(k_:Int):=⟨(c).toNat,by omega⟩
 have e1:c=(kn1:Int):=hkn1
 refine Jd [] [(6,Y c),(7,Pt b_as 0)] (J4 (fr':=[(6,Y (kn1:Int)),(7,Pt b_as 0)]) (L':=[]) (by (simp only [e1];done)) (by rfl) (Jjz (b:=b_as) (off:=0) (ik:=.u8) 8 4 1 256 kn1 (by omega) (Ka (o':=0+kn1*1) 9 4 (cs:=[Bo (Z1 (kn1:Int))]) 0 (Bo (Z1 (kn1:Int))) (asc_at hz_as rfl (by omega)) (Jd [0] [(4,Bo (Z1 (kn1:Int)))] (Jc (Ja (Jk (Jl [0] [Bo (Z1 (kn1:Int))] (Jv (Jt.le_refl _) ?_)))))))))
 have hf_:(Z1 c)=(Z1 (kn1:Int)):=by
  rw [hkn1]
 · (try rw [hf_]);(simp only [JM];done)
theorem Jj9 (G:Jt) (s:List UInt8) (hw_s:(s).length≤140737488351232) (b_as:Nat) (hz_as:∀ j v,(JcI:List Value)[j]? = some v→G b_as (0+j)=some v) :QI Tryz.prog 167 #[Sr s,Pt b_as 0] G [] (fun u G' L'=>u=Sr (Vf s)):=by
 refine JK Tryz.func167 16 [(0,Sr s),(1,Pt b_as 0)] rfl (fun w0 G0=>?_)
 refine Jg [0] [(0,Sr s),(1,Pt b_as 0)] (Je (Jz ?_))
 refine Qe (σ:=List UInt8) (fun q_=>(q_.length≤140737488351232)∧(Vf s=Vf q_)) (fun q_=>[(0,Sr q_),(1,Pt b_as 0)]) (fun q_=>G) (fun q_=>[]) (fun q_=>q_.length) s ⟨hw_s,rfl⟩ (fun q_ hs=>?_)
 revert hs;revert q_;intro t hs
 obtain ⟨ht,hn⟩:=hs
 refine KP (fr':=[(0,Sr t),(1,Pt b_as 0)]) (L':=[]) rfl rfl (Je (Jg [0,0,0] [(0,Sr t),(1,Pt b_as 0),(7,Bo (decide (((t).length:Int) > 0)))] (Jo (decide (((t).length:Int) > 0)) (fun h1=>?_) (fun h1=>?_))))
 try simp only [BB] at h1
 refine Jn (Ja (Jz (Je (Je (Jb (Jd [0,0] [(0,Sr t),(1,Pt b_as 0),(8,Pt b_as 0),(9,Sr t)] ?_))))))
 obtain ⟨y1,hy1⟩:=Wj (l:=t) (k:=0) (by omega)
 have hb_y1:=y1.toNat_lt
 refine Jak (ik:=.i64) 10 0 y1 hy1 (Ji 11 (Bo (Z1 (y1.toNat:Int))) (Jd9 G b_as hz_as (y1.toNat:Int) (by omega)) (Jd [0] [(0,Sr t),(1,Pt b_as 0),(12,Bo (!(Z1 (y1.toNat:Int))))] (Jc (Ja (Jo (!(Z1 (y1.toNat:Int))) (fun h2=>?_) (fun h2=>?_))))))
 try simp only [BB] at h2
 refine K2 (J3 (YQ rfl (Kf (JV (Ja (Jg [0,0] [(4,Sr t)] (Jk (Jl [0] [Sr t] (Jv (Jt.le_refl _) ?_)))))))))
 have hf_:(Vf s)=t:=by
  rw [hn];exact Jj4 hy1 (by simp_all [V2])
 · (try rw [hf_]);(simp only [JM];done)
 try simp only [BB] at h2
 exact Jn (Ja (Jb (Jd [0] [(0,Sr t),(1,Pt b_as 0),(13,Sr t)] (JjD (l:=t) 14 (some (I 1)) none 1 0 (.inr ⟨_,rfl⟩) (.inl ⟨rfl,rfl⟩) (by omega) (Jd [0] [(0,Sr (t.drop 1)),(1,Pt b_as 0)] (Jc (JN (Qh (t.drop 1) ⟨(by (try dsimp only);(try simp only [List.length_drop,List.length_take]);omega),(by (try dsimp only);rw [hn];exact Jh6 hy1 (by simp_all [V2]))⟩ (by (try dsimp only);(try simp only [List.length_drop,List.length_take]);omega)))))))))
 try simp only [BB] at h1
 refine K2 (J3 (Kf (JV (Ja (Jg [0,0] [(4,Sr t)] (Jk (Jl [0] [Sr t] (Jv (Jt.le_refl _) ?_))))))))
 have hf_:(Vf s)=t:=by
  rw [hn];exact Jj6 (by omega)
 · (try rw [hf_]);(simp only [JM];done)
theorem Jka (G:Jt) (s:List UInt8) (hw_s:(s).length≤140737488351232) (b_as:Nat) (hz_as:∀ j v,(JcI:List Value)[j]? = some v→G b_as (0+j)=some v) :QI Tryz.prog 168 #[Sr s,Pt b_as 0] G [] (fun u G' L'=>u=Sr (Yb s)):=by
 refine JK Tryz.func168 22 [(0,Sr s),(1,Pt b_as 0)] rfl (fun w0 G0=>?_)
 refine Jg [0] [(0,Sr s),(1,Pt b_as 0)] (Je (Jz ?_))
 refine Qe (σ:=List UInt8) (fun q_=>(q_.length≤140737488351232)∧(Yb s=Yb q_)) (fun q_=>[(0,Sr q_),(1,Pt b_as 0)]) (fun q_=>G) (fun q_=>[]) (fun q_=>q_.length) s ⟨hw_s,rfl⟩ (fun q_ hs=>?_)
 revert hs;revert q_;intro t hs
 obtain ⟨ht,hn⟩:=hs
 refine KP (fr':=[(0,Sr t),(1,Pt b_as 0)]) (L':=[]) rfl rfl (Je (Jg [0,0,0] [(0,Sr t),(1,Pt b_as 0),(7,Bo (decide (((t).length:Int) > 0)))] (Jo (decide (((t).length:Int) > 0)) (fun h1=>?_) (fun h1=>?_))))
 try simp only [BB] at h1
 refine Jn (Ja (Jz (Je (Je (Jb (Jd [0,0,0,0,0] [(0,Sr t),(1,Pt b_as 0),(8,Pt b_as 0),(9,Sr t),(12,I (IntKind.i64.wrap (((t).length:Int)-1)))] ?_))))))
 have e1:IntKind.i64.wrap (((t).length:Int)-1)=((t.length-1:Nat):Int):=(IntWalk.i64_in _ (by omega)).trans (show ((t).length:Int)-1=((t.length-1:Nat):Int) by omega)
 refine J4 (fr':=[(0,Sr t),(1,Pt b_as 0),(8,Pt b_as 0),(9,Sr t),(12,I ((t.length-1:Nat):Int))]) (L':=[]) (by simp only [e1]) (by rfl) ?_
 clear e1
 obtain ⟨y1,hy1⟩:=Wj (l:=t) (k:=t.length-1) (by omega)
 have hb_y1:=y1.toNat_lt
 refine Jak (ik:=.i64) 13 (t.length-1) y1 hy1 (Ji 14 (Bo (Z1 (y1.toNat:Int))) (Jd9 G b_as hz_as (y1.toNat:Int) (by omega)) (Jd [0] [(0,Sr t),(1,Pt b_as 0),(15,Bo (!(Z1 (y1.toNat:Int))))] (Jc (Ja (Jo (!(Z1 (y1.toNat:Int))) (fun h2=>?_) (fun h2=>?_))))))
 try simp only [BB] at h2
 refine K2 (J3 (YQ rfl (Kf (JV (Ja (Jg [0,0] [(4,Sr t)] (Jk (Jl [0] [Sr t] (Jv (Jt.le_refl _) ?_)))))))))
 have hf_:(Yb s)=t:=by
  rw [hn];exact Jj5 hy1 (by simp_all [V2])
 · (try rw [hf_]);(simp only [JM];done)
 try simp only [BB] at h2
 refine Jn (Ja (Jb (Jd [0,0,0,0] [(0,Sr t),(1,Pt b_as 0),(16,Sr t),(19,I (IntKind.i64.wrap (((t).length:Int)-1)))] ?_)))
 have e2:IntKind.i64.wrap (((t).length:Int)-1)=((t.length-1:Nat):Int):=(IntWalk.i64_in _ (by omega)).trans (show ((t).length:Int)-1=((t.length-1:Nat):Int) by omega)
 refine J4 (fr':=[(0,Sr t),(1,Pt b_as 0),(16,Sr t),(19,I ((t.length-1:Nat):Int))]) (L':=[]) (by simp only [e2]) (by rfl) ?_
 clear e2
 exact JcC (l:=t) 20 none (some (I ((t.length-1:Nat):Int))) 0 (t.length-1) (.inl ⟨rfl,rfl⟩) (.inr ⟨_,rfl⟩) (Nat.zero_le _) (by omega) (Jd [0] [(0,Sr (t.take (t.length-1))),(1,Pt b_as 0)] (Jc (JN (Qh (t.take (t.length-1)) ⟨(by (try dsimp only);(try simp only [List.length_drop,List.length_take]);omega),(by (try dsimp only);rw [hn];exact Jh7 hy1 (by simp_all [V2]))⟩ (by (try dsimp only);(try simp only [List.length_drop,List.length_take]);omega)))))
 try simp only [BB] at h1
 refine K2 (J3 (Kf (JV (Ja (Jg [0,0] [(4,Sr t)] (Jk (Jl [0] [Sr t] (Jv (Jt.le_refl _) ?_))))))))
 have hf_:(Yb s)=t:=by
  rw [hn];exact Jj7 (by omega)
 · (try rw [hf_]);(simp only [JM];done)
theorem Jkb (G:Jt) (s:List UInt8) (hw_s:(s).length≤140737488351232) :QI Tryz.prog 137 #[Sr s,Sr ([48,49])] G [] (fun u G' L'=>u=Sr (Ja4 s)):=by
 refine JK Tryz.func137 43 [(0,Sr s),(1,Sr ([48,49]))] rfl (fun w0 G0=>?_)
 refine Jg [0] [(0,Sr s),(1,Sr ([48,49]))] (Je (Je (Jb (Jd [0,0,0] [(0,Sr s),(1,Sr ([48,49])),(9,Bo ((B s).toList == (B ([])).toList))] (J4 (fr':=[(0,Sr s),(1,Sr ([48,49])),(9,Bo (s == []))]) (L':=[]) (by simp only [Zc]) (by rfl) (KD (s == []) (fun bb=>[(0,Sr s),(1,Sr ([48,49])),(9,Bo bb)]) [1,1,0] [0,0,0] (fun bb=>[(0,Sr s),(1,Sr ([48,49])),(12,Bo (bb || false))]) (Jc (Ja (Jo ((s == []) || false) (fun h1=>?_) (fun h1=>?_))))))))))
 try simp only [BB] at h1
 refine Jg [0,0] [(4,Sr s)] (Jk (Jh (Jl [0] [Sr s] (Jv (Jt.le_refl _) ?_))))
 have hf_:(Ja4 s)=s:=by
  (simp_all;rfl)
 · (try rw [hf_]);(simp only [JM];done)
 try simp only [BB] at h1
 refine Jn (Ja (Je (Jg [0,0,0,0,1,1,1,0] [(0,Sr s),(1,Sr ([48,49])),(21,Bo false)] (Qw (Jn (Ja (Je (Je (Jb (Jd [0] [(0,Sr s),(1,Sr ([48,49])),(30,Sr ([48,49]))] (Ji 31 (.tuple #[.agg JcI.toArray,Bo true]) (Jh8 G) (Jd [0,0,0] [(0,Sr s),(1,Sr ([48,49])),(32,.agg JcI.toArray),(33,Bo true)] (Ju 5 #[Bo false,Bo false,Bo false,Bo false,Bo false,Bo false,Bo false,Bo false,Bo false,Bo false,Bo false,Bo false,Bo false,Bo false,Bo false,Bo false,Bo false,Bo false,Bo false,Bo false,Bo false,Bo false,Bo false,Bo false,Bo false,Bo false,Bo false,Bo false,Bo false,Bo false,Bo false,Bo false,Bo false,Bo false,Bo false,Bo false,Bo false,Bo false,Bo false,Bo false,Bo false,Bo false,Bo false,Bo false,Bo false,Bo false,Bo false,Bo false,Bo false,Bo false,Bo false,Bo false,Bo false,Bo false,Bo false,Bo false,Bo false,Bo false,Bo false,Bo false,Bo false,Bo false,Bo false,Bo false,Bo false,Bo false,Bo false,Bo false,Bo false,Bo false,Bo false,Bo false,Bo false,Bo false,Bo false,Bo false,Bo false,Bo false,Bo false,Bo false,Bo false,Bo false,Bo false,Bo false,Bo false,Bo false,Bo false,Bo false,Bo false,Bo false,Bo false,Bo false,Bo false,Bo false,Bo false,Bo false,Bo false,Bo false,Bo false,Bo false,Bo false,Bo false,Bo false,Bo false,Bo false,Bo false,Bo false,Bo false,Bo false,Bo false,Bo false,Bo false,Bo false,Bo false,Bo false,Bo false,Bo false,Bo false,Bo false,Bo false,Bo false,Bo false,Bo false,Bo false,Bo false,Bo false,Bo false,Bo false,Bo false,Bo false,Bo false,Bo false,Bo false,Bo false,Bo false,Bo false,Bo false,Bo false,Bo false,Bo false,Bo false,Bo false,Bo false,Bo false,Bo false,Bo false,Bo false,Bo false,Bo false,Bo false,Bo false,Bo false,Bo false,Bo false,Bo false,Bo false,Bo false,Bo false,Bo false,Bo false,Bo false,Bo false,Bo false,Bo false,Bo false,Bo false,Bo false,Bo false,Bo false,Bo false,Bo false,Bo false,Bo false,Bo false,Bo false,Bo false,Bo false,Bo false,Bo false,Bo false,Bo false,Bo false,Bo false,Bo false,Bo false,Bo false,Bo false,Bo false,Bo false,Bo false,Bo false,Bo false,Bo false,Bo false,Bo false,Bo false,Bo false,Bo false,Bo false,Bo false,Bo false,Bo false,Bo false,Bo false,Bo false,Bo false,Bo false,Bo false,Bo false,Bo false,Bo false,Bo false,Bo false,Bo false,Bo false,Bo false,Bo false,Bo false,Bo false,Bo false,Bo false,Bo false,Bo false,Bo false,Bo false,Bo false,Bo false,Bo false,Bo false,Bo false,Bo false,Bo false,Bo false,Bo false,Bo false,Bo false,Bo false,Bo false,Bo false,Bo false,Bo false,Bo false,Bo false,Bo false,Bo false,Bo false,Bo false,Bo false,Bo false,Bo false,Bo false,Bo false,Bo false,Bo false,Bo false,Bo false] 259 (fun b1=>Kd [3,0] [(0,Sr s),(1,Sr ([48,49])),(5,Pt b1 0),(6,Bo true)] [[Sg b1 0 JcI]] (Jc (Ja (Jg [0] [(0,Sr s),(1,Sr ([48,49])),(5,Pt b1 0),(34,Bo true)] (JZ ?_))))))))))))))))))
 refine Je (Jb (Jd [0] [(5,Pt b1 0),(35,Sr s)] (QS (b:=b1) (o:=0) (cs:=JcI) 0 (fun G1 hl1 hz1=>Ji 36 (Sr (Yb s)) (Jka G1 s ‹_› b1 hz1) (Ji 37 (Sr (Vf (Yb s))) (Jj9 G1 (Yb s) (Nat.le_trans (Jj8 s) hw_s) b1 hz1) (Jd [0] [(4,Sr (Vf (Yb s)))] (Jc (Ja (Jk (Jh (Jl [0] [Sr (Vf (Yb s))] (Jv hl1 ?_))))))))))))
 have hf_:(Ja4 s)=Vf (Yb s):=by
  rfl
 · (try rw [hf_]);(simp only [JM];done)
theorem Jh9 (G:Jt) (s:List UInt8) (q:List UInt8) :QI Tryz.prog 195 #[Sr s,Sr q] G [] (fun u G' L'=>u=Bo (decide (q <+: s))):=by
 refine JK Tryz.func195 18 [(0,Sr s),(1,Sr q)] rfl (fun w0 G0=>?_)
 refine Jg [0] [(0,Sr s),(1,Sr q)] (Je (Jb (Jd [0,0,0,0,0,0] [(0,Sr s),(1,Sr q),(10,Bo (decide (((s).length:Int) ≥ ((q).length:Int))))] (We (fun bb=>[(0,Sr s),(1,Sr q),(10,Bo bb)]) (decide (((s).length:Int) ≥ ((q).length:Int))) (fun h1=>?_) (fun h1=>?_)))))
 try simp only [BB] at h1
 refine Jd [0,0,0] [(1,Sr q),(10,Bo true),(11,Sr s),(13,I ((q).length:Int))] (JcC (l:=s) 14 none (some (I ((q).length:Int))) 0 ((q).length) (.inl ⟨rfl,rfl⟩) (.inr ⟨_,rfl⟩) (Nat.zero_le _) (by omega) (Jd [0,0,0,0] [(4,Bo ((B (s.take ((q).length))).toList == (B q).toList))] (J4 (fr':=[(4,Bo (s.take ((q).length) == q))]) (L':=[]) (by simp only [Zc]) (by rfl) (Jc (Ja (Jk (Jl [0] [Bo (s.take ((q).length) == q)] (Jv (Jt.le_refl _) ?_))))))))
 have hf_:(decide (q <+: s))=(s.take ((q).length) == q):=by
  (rw [Bool.eq_iff_iff];simp only [decide_eq_true_eq,beq_iff_eq,List.prefix_iff_eq_take];exact eq_comm)
 · (try rw [hf_]);(simp only [JM];done)
 try simp only [BB] at h1
 refine Jd [1,1,1,1,1,1,0,0] [(4,Bo false)] (Jc (Ja (Jk (Jl [0] [Bo false] (Jv (Jt.le_refl _) ?_)))))
 have hf_:(decide (q <+: s))=false:=by
  (rw [decide_eq_false];intro hp_;have q_:=hp_.length_le;omega)
 · (try rw [hf_]);(simp only [JM];done)
theorem JeF (G:Jt) (s:List UInt8) (q:List UInt8) :QI Tryz.prog 176 #[Sr s,Sr q] G [] (fun u G' L'=>u=Bo (decide (q <+: s))):=by
 refine JK Tryz.func176 8 [(0,Sr s),(1,Sr q)] rfl (fun w0 G0=>?_)
 refine Jg [0] [(0,Sr s),(1,Sr q)] (Je (Jb (Jd [0,0] [(5,Sr s),(6,Sr q)] (Ji 7 (Bo (decide (q <+: s))) (Jh9 G s q) (Jd [0] [(4,Bo (decide (q <+: s)))] (Jc (Ja (Jk (Jl [0] [Bo (decide (q <+: s))] (Jv (Jt.le_refl _) ?_))))))))))
 have hf_:(decide (q <+: s))=(decide (q <+: s)):=by
  rfl
 · (try rw [hf_]);(simp only [JM];done)
end Go.Proofs.YtnnlpbjdignhaaaGreatDoor
