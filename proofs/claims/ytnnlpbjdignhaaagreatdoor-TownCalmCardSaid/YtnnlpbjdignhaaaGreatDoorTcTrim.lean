import Derived.Test.YtnnlpbjdignhaaaGreatDoorTcTy
namespace Go.Proofs.YtnnlpbjdignhaaaGreatDoor
open Go.Tx
set_option linter.unusedVariables false
set_option linter.unusedSimpArgs false
def isB (b:UInt8):Bool:=b == 48 || b == 49
def ZX (c:Int):Bool:=decide (c=48) || decide (c=49)
theorem VX (b:UInt8):ZX (b.toNat:Int)=isB b:=by
 have e1:((b.toNat:Int)=48) ↔ b=48:=⟨fun h=>UInt8.toNat_inj.1 (by have q:b.toNat=48:=(by omega);simpa using q),fun h=>by subst h;rfl⟩
 have e2:((b.toNat:Int)=49) ↔ b=49:=⟨fun h=>UInt8.toNat_inj.1 (by have q:b.toNat=49:=(by omega);simpa using q),fun h=>by subst h;rfl⟩
 unfold ZX isB;rw [Bool.eq_iff_iff];simp [e1,e2]
def Vb (s:List UInt8):List UInt8:=s.dropWhile isB
def Z7 (s:List UInt8):List UInt8:=(s.reverse.dropWhile isB).reverse
def JaX (s:List UInt8):List UInt8:=Vb (Z7 s)
theorem JhY {s:List UInt8} {y:UInt8} (h:s[0]? = some y) (hb:isB y=true):Vb s=Vb (s.drop 1):=by
 cases s with
 | nil=>cases h
 | cons x r=>simp at h;subst h;simp [Vb,List.dropWhile_cons,hb]
theorem JjW {s:List UInt8} {y:UInt8} (h:s[0]? = some y) (hb:isB y=false):Vb s=s:=by
 cases s with
 | nil=>cases h
 | cons x r=>simp at h;subst h;simp [Vb,List.dropWhile_cons,hb]
theorem Ji1 {s:List UInt8} {y:UInt8} (h:s[s.length-1]? = some y):s=s.take (s.length-1)++[y]:=by
 obtain ⟨hl,e⟩:=List.getElem?_eq_some_iff.1 h
 have:=List.take_append_drop (s.length-1) s
 rw [List.drop_eq_getElem_cons hl,e,List.drop_eq_nil_of_le (by omega)] at this
 exact this.symm
theorem JhZ {s:List UInt8} {y:UInt8} (h:s[s.length-1]? = some y) (hb:isB y=true):Z7 s=Z7 (s.take (s.length-1)):=by
 have e:=Ji1 h
 generalize hr:s.take (s.length-1)=r at *
 rw [e];unfold Z7;rw [List.reverse_append];simp [List.dropWhile_cons,hb]
theorem JjX {s:List UInt8} {y:UInt8} (h:s[s.length-1]? = some y) (hb:isB y=false):Z7 s=s:=by
 have e:=Ji1 h
 generalize hr:s.take (s.length-1)=r at *
 rw [e];unfold Z7;rw [List.reverse_append];simp [List.dropWhile_cons,hb]
theorem Jlj {s:List UInt8} (h:((s.length:Nat):Int)≤0):s=[]:=List.eq_nil_of_length_eq_zero (by omega)
theorem JjY {s:List UInt8} (h:((s.length:Nat):Int)≤0):Vb s=s:=by rw [Jlj h];rfl
theorem JjZ {s:List UInt8} (h:((s.length:Nat):Int)≤0):Z7 s=s:=by rw [Jlj h];rfl
theorem V4 {p:UInt8→Bool}:∀ {s:List UInt8},s.dropWhile p=[] ↔ ∀ b∈s,p b=true
 | []=>by simp
 | x::r=>by
  rw [List.dropWhile_cons]
  split
  ·
   rename_i h;rw [V4];simp [h]
  ·
   rename_i h;simp [h]
theorem JaY {p:UInt8→Bool}:∀ {s:List UInt8} {x:UInt8},(s.dropWhile p).head? = some x→p x=false
 | [],_,h=>by cases h
 | y::r,x,h=>by
  rw [List.dropWhile_cons] at h
  split at h
  ·
   exact JaY h
  ·
   rename_i hy;simp at h;subst h;simpa using hy
theorem Jfj {s:List UInt8}:JaX s=[] ↔ ∀ b∈s,isB b=true:=by
 unfold JaX Vb
 rw [V4]
 constructor
 ·
  intro h
  by_cases e:s.reverse.dropWhile isB=[]
  ·
   rw [V4] at e;simpa using e
  ·
   exfalso
   obtain ⟨x,hx⟩:∃ x,(s.reverse.dropWhile isB).head? = some x:=by
    cases hh:s.reverse.dropWhile isB with
    | nil=>exact absurd hh e
    | cons x r=>exact ⟨x,rfl⟩
   have h1:=JaY hx
   have h2:x∈Z7 s:=by unfold Z7;rw [List.mem_reverse];exact List.mem_of_mem_head? hx
   rw [h x h2] at h1;cases h1
 ·
  intro h b hb
  unfold Z7 at hb
  rw [List.mem_reverse] at hb
  exact h b (List.mem_reverse.1 ((List.dropWhile_sublist _).subset hb))
theorem Jj0 (s:List UInt8):(Z7 s).length≤s.length:=by
 unfold Z7;rw [List.length_reverse];have:=(List.dropWhile_sublist (p:=isB) (l:=s.reverse)).length_le;rw [List.length_reverse] at this;exact this
def Jcy:List Value:=(List.range 256).map fun (j:Nat)=>Bo (ZX (j:Int))
theorem Jlk {k:Nat} (hk:k<256):Jcy[k]? = some (Bo (ZX (k:Int))):=by
 unfold Jcy;simp [hk]
theorem asc_at {G:Jt} {b k:Nat} {cs:List Value} (hz:∀ j v,cs[j]? = some v→G b (0+j)=some v) (hc:cs=Jcy) (hk:k<256):∀ j v,[Bo (ZX (k:Int))][j]? = some v→G b (0+k*1+j)=some v:=by
 intro j v hv
 cases j with
 | zero =>
  simp at hv;subst hv hc
  have:=hz k _ (Jlk hk)
  rw [Nat.mul_one,Nat.add_zero];exact this
 | succ j=>simp at hv
set_option maxRecDepth 4000 in
theorem Jh0 (G:Jt):QF Tryz.prog 166 #[Sr [48,49]] G [] (fun u G' L'=>u=.tuple #[.agg Jcy.toArray,Bo true]):=by
 refine JJ Tryz.func166 21 [(0,Sr ([48,49]))] rfl (fun w0 G0=>?_)
 refine Je (Jb (Ju 2 #[Bo false,Bo false,Bo false,Bo false,Bo false,Bo false,Bo false,Bo false,Bo false,Bo false,Bo false,Bo false,Bo false,Bo false,Bo false,Bo false,Bo false,Bo false,Bo false,Bo false,Bo false,Bo false,Bo false,Bo false,Bo false,Bo false,Bo false,Bo false,Bo false,Bo false,Bo false,Bo false,Bo false,Bo false,Bo false,Bo false,Bo false,Bo false,Bo false,Bo false,Bo false,Bo false,Bo false,Bo false,Bo false,Bo false,Bo false,Bo false,Bo false,Bo false,Bo false,Bo false,Bo false,Bo false,Bo false,Bo false,Bo false,Bo false,Bo false,Bo false,Bo false,Bo false,Bo false,Bo false,Bo false,Bo false,Bo false,Bo false,Bo false,Bo false,Bo false,Bo false,Bo false,Bo false,Bo false,Bo false,Bo false,Bo false,Bo false,Bo false,Bo false,Bo false,Bo false,Bo false,Bo false,Bo false,Bo false,Bo false,Bo false,Bo false,Bo false,Bo false,Bo false,Bo false,Bo false,Bo false,Bo false,Bo false,Bo false,Bo false,Bo false,Bo false,Bo false,Bo false,Bo false,Bo false,Bo false,Bo false,Bo false,Bo false,Bo false,Bo false,Bo false,Bo false,Bo false,Bo false,Bo false,Bo false,Bo false,Bo false,Bo false,Bo false,Bo false,Bo false,Bo false,Bo false,Bo false,Bo false,Bo false,Bo false,Bo false,Bo false,Bo false,Bo false,Bo false,Bo false,Bo false,Bo false,Bo false,Bo false,Bo false,Bo false,Bo false,Bo false,Bo false,Bo false,Bo false,Bo false,Bo false,Bo false,Bo false,Bo false,Bo false,Bo false,Bo false,Bo false,Bo false,Bo false,Bo false,Bo false,Bo false,Bo false,Bo false,Bo false,Bo false,Bo false,Bo false,Bo false,Bo false,Bo false,Bo false,Bo false,Bo false,Bo false,Bo false,Bo false,Bo false,Bo false,Bo false,Bo false,Bo false,Bo false,Bo false,Bo false,Bo false,Bo false,Bo false,Bo false,Bo false,Bo false,Bo false,Bo false,Bo false,Bo false,Bo false,Bo false,Bo false,Bo false,Bo false,Bo false,Bo false,Bo false,Bo false,Bo false,Bo false,Bo false,Bo false,Bo false,Bo false,Bo false,Bo false,Bo false,Bo false,Bo false,Bo false,Bo false,Bo false,Bo false,Bo false,Bo false,Bo false,Bo false,Bo false,Bo false,Bo false,Bo false,Bo false,Bo false,Bo false,Bo false,Bo false,Bo false,Bo false,Bo false,Bo false,Bo false,Bo false,Bo false,Bo false,Bo false,Bo false,Bo false,Bo false,Bo false,Bo false,Bo false,Bo false,Bo false,Bo false,Bo false,Bo false,Bo false,Bo false,Bo false,Bo false,Bo false] 259 (fun b1=>Jd [0] [(0,Sr ([48,49])),(2,Pt b1 0)] (Jc (Ja (Je (Jg [0] [(0,Sr ([48,49])),(2,Pt b1 0),(4,I 0)] (Jz (Jck 3 (Q6 (Je (Jg [0,0,0,0] [(0,Sr ([48,49])),(2,Pt b1 0),(4,I 0),(9,Bo true)] (JZ (Jm (Ja (Je (Jz (Jg [0,0,0,0] [(0,Sr ([48,49])),(2,Pt b1 0),(4,I 0),(5,Y 48)] (Je ?_)))))))))))))))))))
 refine Jg [0,0] [(0,Sr ([48,49])),(2,Pt b1 0),(4,I 0),(5,Y 48),(16,Bo false)] (Qv (Jm (Ja (Jb (Kd [0,0,3] [(0,Sr ([48,49])),(2,Pt b1 0),(4,I 0)] [[Sg b1 0 [Bo false,Bo false,Bo false,Bo false,Bo false,Bo false,Bo false,Bo false,Bo false,Bo false,Bo false,Bo false,Bo false,Bo false,Bo false,Bo false,Bo false,Bo false,Bo false,Bo false,Bo false,Bo false,Bo false,Bo false,Bo false,Bo false,Bo false,Bo false,Bo false,Bo false,Bo false,Bo false,Bo false,Bo false,Bo false,Bo false,Bo false,Bo false,Bo false,Bo false,Bo false,Bo false,Bo false,Bo false,Bo false,Bo false,Bo false,Bo false,Bo true,Bo false,Bo false,Bo false,Bo false,Bo false,Bo false,Bo false,Bo false,Bo false,Bo false,Bo false,Bo false,Bo false,Bo false,Bo false,Bo false,Bo false,Bo false,Bo false,Bo false,Bo false,Bo false,Bo false,Bo false,Bo false,Bo false,Bo false,Bo false,Bo false,Bo false,Bo false,Bo false,Bo false,Bo false,Bo false,Bo false,Bo false,Bo false,Bo false,Bo false,Bo false,Bo false,Bo false,Bo false,Bo false,Bo false,Bo false,Bo false,Bo false,Bo false,Bo false,Bo false,Bo false,Bo false,Bo false,Bo false,Bo false,Bo false,Bo false,Bo false,Bo false,Bo false,Bo false,Bo false,Bo false,Bo false,Bo false,Bo false,Bo false,Bo false,Bo false,Bo false,Bo false,Bo false,Bo false,Bo false,Bo false,Bo false,Bo false,Bo false,Bo false,Bo false,Bo false,Bo false,Bo false,Bo false,Bo false,Bo false,Bo false,Bo false,Bo false,Bo false,Bo false,Bo false,Bo false,Bo false,Bo false,Bo false,Bo false,Bo false,Bo false,Bo false,Bo false,Bo false,Bo false,Bo false,Bo false,Bo false,Bo false,Bo false,Bo false,Bo false,Bo false,Bo false,Bo false,Bo false,Bo false,Bo false,Bo false,Bo false,Bo false,Bo false,Bo false,Bo false,Bo false,Bo false,Bo false,Bo false,Bo false,Bo false,Bo false,Bo false,Bo false,Bo false,Bo false,Bo false,Bo false,Bo false,Bo false,Bo false,Bo false,Bo false,Bo false,Bo false,Bo false,Bo false,Bo false,Bo false,Bo false,Bo false,Bo false,Bo false,Bo false,Bo false,Bo false,Bo false,Bo false,Bo false,Bo false,Bo false,Bo false,Bo false,Bo false,Bo false,Bo false,Bo false,Bo false,Bo false,Bo false,Bo false,Bo false,Bo false,Bo false,Bo false,Bo false,Bo false,Bo false,Bo false,Bo false,Bo false,Bo false,Bo false,Bo false,Bo false,Bo false,Bo false,Bo false,Bo false,Bo false,Bo false,Bo false,Bo false,Bo false,Bo false,Bo false,Bo false,Bo false,Bo false,Bo false,Bo false,Bo false,Bo false,Bo false,Bo false,Bo false,Bo false,Bo false]]] (Jc (JM (Ja (Jb (Jd [0,0,0] [(0,Sr ([48,49])),(2,Pt b1 0),(4,I 1)] (Jc (Wm (Q6 (Je (Jg [0,0,0,0] [(0,Sr ([48,49])),(2,Pt b1 0),(4,I 1),(9,Bo true)] (JZ (Jm (Ja (Je (Jz ?_))))))))))))))))))))
 refine Jg [0,0,0,0] [(0,Sr ([48,49])),(2,Pt b1 0),(4,I 1),(5,Y 49)] (Je (Jg [0,0] [(0,Sr ([48,49])),(2,Pt b1 0),(4,I 1),(5,Y 49),(16,Bo false)] (Qv (Jm (Ja (Jb (Kd [0,0,3] [(0,Sr ([48,49])),(2,Pt b1 0),(4,I 1)] [[Sg b1 0 Jcy]] (Jc (JM (Ja (Jb (Jd [0,0,0] [(0,Sr ([48,49])),(2,Pt b1 0),(4,I 2)] (Jc (Wm (Q6 (Je (Jg [0,0,0,0] [(0,Sr ([48,49])),(2,Pt b1 0),(4,I 2),(9,Bo false)] (Qv ?_))))))))))))))))))
 refine K0 (J2 (J2 (JU (Ja (Jg [2,3,0] [(2,Pt b1 0),(3,Bo true)] (Jk (Jl [0,0] [.agg Jcy.toArray,Bo true] (Jv (Jt.le_refl _) ?_))))))))
 rfl
theorem Jd0 (G:Jt) (b_as:Nat) (hz_as:∀ j v,(Jcy:List Value)[j]? = some v→G b_as (0+j)=some v) (c:Int) (hw_c:0≤c∧c<256) :QF Tryz.prog 188 #[Pt b_as 0,Y c] G [] (fun u G' L'=>u=Bo (ZX c)):=by
 refine JJ Tryz.func188 10 [(0,Pt b_as 0),(1,Y c)] rfl (fun w0 G0=>?_)
 refine Jg [0] [(0,Pt b_as 0),(1,Y c)] (Je (Jb (Jd [0,0,0] [(6,Y c),(7,Pt b_as 0)] ?_)))
 obtain ⟨kn1,hkn1⟩:∃ k_:Nat,c=(k_:Int):=⟨(c).toNat,by omega⟩
 have e1:c=(kn1:Int):=hkn1
 refine Jd [] [(6,Y c),(7,Pt b_as 0)] (J3 (fr':=[(6,Y (kn1:Int)),(7,Pt b_as 0)]) (L':=[]) (by (simp only [e1];done)) (by rfl) (Jjr (b:=b_as) (off:=0) (ik:=.u8) 8 4 1 256 kn1 (by omega) (Ka (o':=0+kn1*1) 9 4 (cs:=[Bo (ZX (kn1:Int))]) 0 (Bo (ZX (kn1:Int))) (asc_at hz_as rfl (by omega)) (Jd [0] [(4,Bo (ZX (kn1:Int)))] (Jc (Ja (Jk (Jl [0] [Bo (ZX (kn1:Int))] (Jv (Jt.le_refl _) ?_)))))))))
 have hf_:(ZX c)=(ZX (kn1:Int)):=by
  rw [hkn1]
 · (try rw [hf_]);(simp only [JL];done)
theorem Jj1 (G:Jt) (s:List UInt8) (hw_s:(s).length≤140737488351232) (b_as:Nat) (hz_as:∀ j v,(Jcy:List Value)[j]? = some v→G b_as (0+j)=some v) :QF Tryz.prog 167 #[Sr s,Pt b_as 0] G [] (fun u G' L'=>u=Sr (Vb s)):=by
 refine JJ Tryz.func167 16 [(0,Sr s),(1,Pt b_as 0)] rfl (fun w0 G0=>?_)
 refine Jg [0] [(0,Sr s),(1,Pt b_as 0)] (Je (Jz ?_))
 refine Qc (σ:=List UInt8) (fun q_=>(q_.length≤140737488351232)∧(Vb s=Vb q_)) (fun q_=>[(0,Sr q_),(1,Pt b_as 0)]) (fun q_=>G) (fun q_=>[]) (fun q_=>q_.length) s ⟨hw_s,rfl⟩ (fun q_ hs=>?_)
 revert hs;revert q_;intro t hs
 obtain ⟨ht,hn⟩:=hs
 refine KQ (fr':=[(0,Sr t),(1,Pt b_as 0)]) (L':=[]) rfl rfl (Je (Jg [0,0,0] [(0,Sr t),(1,Pt b_as 0),(7,Bo (decide (((t).length:Int) > 0)))] (Jo (decide (((t).length:Int) > 0)) (fun h1=>?_) (fun h1=>?_))))
 try simp only [BB] at h1
 refine Jm (Ja (Jz (Je (Je (Jb (Jd [0,0] [(0,Sr t),(1,Pt b_as 0),(8,Pt b_as 0),(9,Sr t)] ?_))))))
 obtain ⟨y1,hy1⟩:=Wh (l:=t) (k:=0) (by omega)
 have hb_y1:=y1.toNat_lt
 refine Jac (ik:=.i64) 10 0 y1 hy1 (Ji 11 (Bo (ZX (y1.toNat:Int))) (Jd0 G b_as hz_as (y1.toNat:Int) (by omega)) (Jd [0] [(0,Sr t),(1,Pt b_as 0),(12,Bo (!(ZX (y1.toNat:Int))))] (Jc (Ja (Jo (!(ZX (y1.toNat:Int))) (fun h2=>?_) (fun h2=>?_))))))
 try simp only [BB] at h2
 refine K0 (J2 (YI rfl (Kf (JU (Ja (Jg [0,0] [(4,Sr t)] (Jk (Jl [0] [Sr t] (Jv (Jt.le_refl _) ?_)))))))))
 have hf_:(Vb s)=t:=by
  rw [hn];exact JjW hy1 (by simp_all [VX])
 · (try rw [hf_]);(simp only [JL];done)
 try simp only [BB] at h2
 exact Jm (Ja (Jb (Jd [0] [(0,Sr t),(1,Pt b_as 0),(13,Sr t)] (Jjv (l:=t) 14 (some (I 1)) none 1 0 (.inr ⟨_,rfl⟩) (.inl ⟨rfl,rfl⟩) (by omega) (Jd [0] [(0,Sr (t.drop 1)),(1,Pt b_as 0)] (Jc (JM (Qg (t.drop 1) ⟨(by (try dsimp only);(try simp only [List.length_drop,List.length_take]);omega),(by (try dsimp only);rw [hn];exact JhY hy1 (by simp_all [VX]))⟩ (by (try dsimp only);(try simp only [List.length_drop,List.length_take]);omega)))))))))
 try simp only [BB] at h1
 refine K0 (J2 (Kf (JU (Ja (Jg [0,0] [(4,Sr t)] (Jk (Jl [0] [Sr t] (Jv (Jt.le_refl _) ?_))))))))
 have hf_:(Vb s)=t:=by
  rw [hn];exact JjY (by omega)
 · (try rw [hf_]);(simp only [JL];done)
theorem Jj2 (G:Jt) (s:List UInt8) (hw_s:(s).length≤140737488351232) (b_as:Nat) (hz_as:∀ j v,(Jcy:List Value)[j]? = some v→G b_as (0+j)=some v) :QF Tryz.prog 168 #[Sr s,Pt b_as 0] G [] (fun u G' L'=>u=Sr (Z7 s)):=by
 refine JJ Tryz.func168 22 [(0,Sr s),(1,Pt b_as 0)] rfl (fun w0 G0=>?_)
 refine Jg [0] [(0,Sr s),(1,Pt b_as 0)] (Je (Jz ?_))
 refine Qc (σ:=List UInt8) (fun q_=>(q_.length≤140737488351232)∧(Z7 s=Z7 q_)) (fun q_=>[(0,Sr q_),(1,Pt b_as 0)]) (fun q_=>G) (fun q_=>[]) (fun q_=>q_.length) s ⟨hw_s,rfl⟩ (fun q_ hs=>?_)
 revert hs;revert q_;intro t hs
 obtain ⟨ht,hn⟩:=hs
 refine KQ (fr':=[(0,Sr t),(1,Pt b_as 0)]) (L':=[]) rfl rfl (Je (Jg [0,0,0] [(0,Sr t),(1,Pt b_as 0),(7,Bo (decide (((t).length:Int) > 0)))] (Jo (decide (((t).length:Int) > 0)) (fun h1=>?_) (fun h1=>?_))))
 try simp only [BB] at h1
 refine Jm (Ja (Jz (Je (Je (Jb (Jd [0,0,0,0,0] [(0,Sr t),(1,Pt b_as 0),(8,Pt b_as 0),(9,Sr t),(12,I (IntKind.i64.wrap (((t).length:Int)-1)))] ?_))))))
 have e1:IntKind.i64.wrap (((t).length:Int)-1)=((t.length-1:Nat):Int):=(IntWalk.i64_in _ (by omega)).trans (show ((t).length:Int)-1=((t.length-1:Nat):Int) by omega)
 refine J3 (fr':=[(0,Sr t),(1,Pt b_as 0),(8,Pt b_as 0),(9,Sr t),(12,I ((t.length-1:Nat):Int))]) (L':=[]) (by simp only [e1]) (by rfl) ?_
 clear e1
 obtain ⟨y1,hy1⟩:=Wh (l:=t) (k:=t.length-1) (by omega)
 have hb_y1:=y1.toNat_lt
 refine Jac (ik:=.i64) 13 (t.length-1) y1 hy1 (Ji 14 (Bo (ZX (y1.toNat:Int))) (Jd0 G b_as hz_as (y1.toNat:Int) (by omega)) (Jd [0] [(0,Sr t),(1,Pt b_as 0),(15,Bo (!(ZX (y1.toNat:Int))))] (Jc (Ja (Jo (!(ZX (y1.toNat:Int))) (fun h2=>?_) (fun h2=>?_))))))
 try simp only [BB] at h2
 refine K0 (J2 (YI rfl (Kf (JU (Ja (Jg [0,0] [(4,Sr t)] (Jk (Jl [0] [Sr t] (Jv (Jt.le_refl _) ?_)))))))))
 have hf_:(Z7 s)=t:=by
  rw [hn];exact JjX hy1 (by simp_all [VX])
 · (try rw [hf_]);(simp only [JL];done)
 try simp only [BB] at h2
 refine Jm (Ja (Jb (Jd [0,0,0,0] [(0,Sr t),(1,Pt b_as 0),(16,Sr t),(19,I (IntKind.i64.wrap (((t).length:Int)-1)))] ?_)))
 have e2:IntKind.i64.wrap (((t).length:Int)-1)=((t.length-1:Nat):Int):=(IntWalk.i64_in _ (by omega)).trans (show ((t).length:Int)-1=((t.length-1:Nat):Int) by omega)
 refine J3 (fr':=[(0,Sr t),(1,Pt b_as 0),(16,Sr t),(19,I ((t.length-1:Nat):Int))]) (L':=[]) (by simp only [e2]) (by rfl) ?_
 clear e2
 exact Jcs (l:=t) 20 none (some (I ((t.length-1:Nat):Int))) 0 (t.length-1) (.inl ⟨rfl,rfl⟩) (.inr ⟨_,rfl⟩) (Nat.zero_le _) (by omega) (Jd [0] [(0,Sr (t.take (t.length-1))),(1,Pt b_as 0)] (Jc (JM (Qg (t.take (t.length-1)) ⟨(by (try dsimp only);(try simp only [List.length_drop,List.length_take]);omega),(by (try dsimp only);rw [hn];exact JhZ hy1 (by simp_all [VX]))⟩ (by (try dsimp only);(try simp only [List.length_drop,List.length_take]);omega)))))
 try simp only [BB] at h1
 refine K0 (J2 (Kf (JU (Ja (Jg [0,0] [(4,Sr t)] (Jk (Jl [0] [Sr t] (Jv (Jt.le_refl _) ?_))))))))
 have hf_:(Z7 s)=t:=by
  rw [hn];exact JjZ (by omega)
 · (try rw [hf_]);(simp only [JL];done)
theorem Jj3 (G:Jt) (s:List UInt8) (hw_s:(s).length≤140737488351232) :QF Tryz.prog 137 #[Sr s,Sr ([48,49])] G [] (fun u G' L'=>u=Sr (JaX s)):=by
 refine JJ Tryz.func137 43 [(0,Sr s),(1,Sr ([48,49]))] rfl (fun w0 G0=>?_)
 refine Jg [0] [(0,Sr s),(1,Sr ([48,49]))] (Je (Je (Jb (Jd [0,0,0] [(0,Sr s),(1,Sr ([48,49])),(9,Bo ((B s).toList == (B ([])).toList))] (J3 (fr':=[(0,Sr s),(1,Sr ([48,49])),(9,Bo (s == []))]) (L':=[]) (by simp only [Za]) (by rfl) (KD (s == []) (fun bb=>[(0,Sr s),(1,Sr ([48,49])),(9,Bo bb)]) [1,1,0] [0,0,0] (fun bb=>[(0,Sr s),(1,Sr ([48,49])),(12,Bo (bb || false))]) (Jc (Ja (Jo ((s == []) || false) (fun h1=>?_) (fun h1=>?_))))))))))
 try simp only [BB] at h1
 refine Jg [0,0] [(4,Sr s)] (Jk (Jh (Jl [0] [Sr s] (Jv (Jt.le_refl _) ?_))))
 have hf_:(JaX s)=s:=by
  (simp_all;rfl)
 · (try rw [hf_]);(simp only [JL];done)
 try simp only [BB] at h1
 refine Jm (Ja (Je (Jg [0,0,0,0,1,1,1,0] [(0,Sr s),(1,Sr ([48,49])),(21,Bo false)] (Qv (Jm (Ja (Je (Je (Jb (Jd [0] [(0,Sr s),(1,Sr ([48,49])),(30,Sr ([48,49]))] (Ji 31 (.tuple #[.agg Jcy.toArray,Bo true]) (Jh0 G) (Jd [0,0,0] [(0,Sr s),(1,Sr ([48,49])),(32,.agg Jcy.toArray),(33,Bo true)] (Ju 5 #[Bo false,Bo false,Bo false,Bo false,Bo false,Bo false,Bo false,Bo false,Bo false,Bo false,Bo false,Bo false,Bo false,Bo false,Bo false,Bo false,Bo false,Bo false,Bo false,Bo false,Bo false,Bo false,Bo false,Bo false,Bo false,Bo false,Bo false,Bo false,Bo false,Bo false,Bo false,Bo false,Bo false,Bo false,Bo false,Bo false,Bo false,Bo false,Bo false,Bo false,Bo false,Bo false,Bo false,Bo false,Bo false,Bo false,Bo false,Bo false,Bo false,Bo false,Bo false,Bo false,Bo false,Bo false,Bo false,Bo false,Bo false,Bo false,Bo false,Bo false,Bo false,Bo false,Bo false,Bo false,Bo false,Bo false,Bo false,Bo false,Bo false,Bo false,Bo false,Bo false,Bo false,Bo false,Bo false,Bo false,Bo false,Bo false,Bo false,Bo false,Bo false,Bo false,Bo false,Bo false,Bo false,Bo false,Bo false,Bo false,Bo false,Bo false,Bo false,Bo false,Bo false,Bo false,Bo false,Bo false,Bo false,Bo false,Bo false,Bo false,Bo false,Bo false,Bo false,Bo false,Bo false,Bo false,Bo false,Bo false,Bo false,Bo false,Bo false,Bo false,Bo false,Bo false,Bo false,Bo false,Bo false,Bo false,Bo false,Bo false,Bo false,Bo false,Bo false,Bo false,Bo false,Bo false,Bo false,Bo false,Bo false,Bo false,Bo false,Bo false,Bo false,Bo false,Bo false,Bo false,Bo false,Bo false,Bo false,Bo false,Bo false,Bo false,Bo false,Bo false,Bo false,Bo false,Bo false,Bo false,Bo false,Bo false,Bo false,Bo false,Bo false,Bo false,Bo false,Bo false,Bo false,Bo false,Bo false,Bo false,Bo false,Bo false,Bo false,Bo false,Bo false,Bo false,Bo false,Bo false,Bo false,Bo false,Bo false,Bo false,Bo false,Bo false,Bo false,Bo false,Bo false,Bo false,Bo false,Bo false,Bo false,Bo false,Bo false,Bo false,Bo false,Bo false,Bo false,Bo false,Bo false,Bo false,Bo false,Bo false,Bo false,Bo false,Bo false,Bo false,Bo false,Bo false,Bo false,Bo false,Bo false,Bo false,Bo false,Bo false,Bo false,Bo false,Bo false,Bo false,Bo false,Bo false,Bo false,Bo false,Bo false,Bo false,Bo false,Bo false,Bo false,Bo false,Bo false,Bo false,Bo false,Bo false,Bo false,Bo false,Bo false,Bo false,Bo false,Bo false,Bo false,Bo false,Bo false,Bo false,Bo false,Bo false,Bo false,Bo false,Bo false,Bo false,Bo false,Bo false,Bo false,Bo false,Bo false,Bo false,Bo false,Bo false,Bo false,Bo false,Bo false,Bo false,Bo false,Bo false,Bo false,Bo false,Bo false,Bo false] 259 (fun b1=>Kd [3,0] [(0,Sr s),(1,Sr ([48,49])),(5,Pt b1 0),(6,Bo true)] [[Sg b1 0 Jcy]] (Jc (Ja (Jg [0] [(0,Sr s),(1,Sr ([48,49])),(5,Pt b1 0),(34,Bo true)] (JZ ?_))))))))))))))))))
 refine Je (Jb (Jd [0] [(5,Pt b1 0),(35,Sr s)] (QQ (b:=b1) (o:=0) (cs:=Jcy) 0 (fun G1 hl1 hz1=>Ji 36 (Sr (Z7 s)) (Jj2 G1 s ‹_› b1 hz1) (Ji 37 (Sr (Vb (Z7 s))) (Jj1 G1 (Z7 s) (Nat.le_trans (Jj0 s) hw_s) b1 hz1) (Jd [0] [(4,Sr (Vb (Z7 s)))] (Jc (Ja (Jk (Jh (Jl [0] [Sr (Vb (Z7 s))] (Jv hl1 ?_))))))))))))
 have hf_:(JaX s)=Vb (Z7 s):=by
  rfl
 · (try rw [hf_]);(simp only [JL];done)
theorem Jh1 (G:Jt) (s:List UInt8) (q:List UInt8) :QF Tryz.prog 195 #[Sr s,Sr q] G [] (fun u G' L'=>u=Bo (decide (q <+: s))):=by
 refine JJ Tryz.func195 18 [(0,Sr s),(1,Sr q)] rfl (fun w0 G0=>?_)
 refine Jg [0] [(0,Sr s),(1,Sr q)] (Je (Jb (Jd [0,0,0,0,0,0] [(0,Sr s),(1,Sr q),(10,Bo (decide (((s).length:Int) ≥ ((q).length:Int))))] (Wd (fun bb=>[(0,Sr s),(1,Sr q),(10,Bo bb)]) (decide (((s).length:Int) ≥ ((q).length:Int))) (fun h1=>?_) (fun h1=>?_)))))
 try simp only [BB] at h1
 refine Jd [0,0,0] [(1,Sr q),(10,Bo true),(11,Sr s),(13,I ((q).length:Int))] (Jcs (l:=s) 14 none (some (I ((q).length:Int))) 0 ((q).length) (.inl ⟨rfl,rfl⟩) (.inr ⟨_,rfl⟩) (Nat.zero_le _) (by omega) (Jd [0,0,0,0] [(4,Bo ((B (s.take ((q).length))).toList == (B q).toList))] (J3 (fr':=[(4,Bo (s.take ((q).length) == q))]) (L':=[]) (by simp only [Za]) (by rfl) (Jc (Ja (Jk (Jl [0] [Bo (s.take ((q).length) == q)] (Jv (Jt.le_refl _) ?_))))))))
 have hf_:(decide (q <+: s))=(s.take ((q).length) == q):=by
  (rw [Bool.eq_iff_iff];simp only [decide_eq_true_eq,beq_iff_eq,List.prefix_iff_eq_take];exact eq_comm)
 · (try rw [hf_]);(simp only [JL];done)
 try simp only [BB] at h1
 refine Jd [1,1,1,1,1,1,0,0] [(4,Bo false)] (Jc (Ja (Jk (Jl [0] [Bo false] (Jv (Jt.le_refl _) ?_)))))
 have hf_:(decide (q <+: s))=false:=by
  (rw [decide_eq_false];intro hp_;have q_:=hp_.length_le;omega)
 · (try rw [hf_]);(simp only [JL];done)
theorem Jew (G:Jt) (s:List UInt8) (q:List UInt8) :QF Tryz.prog 176 #[Sr s,Sr q] G [] (fun u G' L'=>u=Bo (decide (q <+: s))):=by
 refine JJ Tryz.func176 8 [(0,Sr s),(1,Sr q)] rfl (fun w0 G0=>?_)
 refine Jg [0] [(0,Sr s),(1,Sr q)] (Je (Jb (Jd [0,0] [(5,Sr s),(6,Sr q)] (Ji 7 (Bo (decide (q <+: s))) (Jh1 G s q) (Jd [0] [(4,Bo (decide (q <+: s)))] (Jc (Ja (Jk (Jl [0] [Bo (decide (q <+: s))] (Jv (Jt.le_refl _) ?_))))))))))
 have hf_:(decide (q <+: s))=(decide (q <+: s)):=by
  rfl
 · (try rw [hf_]);(simp only [JL];done)
end Go.Proofs.YtnnlpbjdignhaaaGreatDoor
