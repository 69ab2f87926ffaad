import Derived.Test.YtnnlpbjdignhaaaGreatDoorTfTy
namespace Go.Proofs.YtnnlpbjdignhaaaGreatDoor
open Go.Tx
set_option linter.unusedVariables false
set_option linter.unusedSimpArgs false
def isB (b:UInt8):Bool:=b == 48 || b == 49
def ZQ (c:Int):Bool:=decide (c=48) || decide (c=49)
theorem VF (b:UInt8):ZQ (b.toNat:Int)=isB b:=by
 have e1:((b.toNat:Int)=48) ↔ b=48:=⟨fun h=>UInt8.toNat_inj.1 (by have q:b.toNat=48:=(by omega);simpa using q),fun h=>by subst h;rfl⟩
 have e2:((b.toNat:Int)=49) ↔ b=49:=⟨fun h=>UInt8.toNat_inj.1 (by have q:b.toNat=49:=(by omega);simpa using q),fun h=>by subst h;rfl⟩
 unfold ZQ isB;rw [Bool.eq_iff_iff];simp [e1,e2]
def YV (s:List UInt8):List UInt8:=s.dropWhile isB
def ZZ (s:List UInt8):List UInt8:=(s.reverse.dropWhile isB).reverse
def Jax (s:List UInt8):List UInt8:=YV (ZZ s)
theorem Jhj {s:List UInt8} {y:UInt8} (h:s[0]? = some y) (hb:isB y=true):YV s=YV (s.drop 1):=by
 cases s with
 | nil=>cases h
 | cons x r=>simp at h;subst h;simp [YV,List.dropWhile_cons,hb]
theorem Ji8 {s:List UInt8} {y:UInt8} (h:s[0]? = some y) (hb:isB y=false):YV s=s:=by
 cases s with
 | nil=>cases h
 | cons x r=>simp at h;subst h;simp [YV,List.dropWhile_cons,hb]
theorem Jig {s:List UInt8} {y:UInt8} (h:s[s.length-1]? = some y):s=s.take (s.length-1)++[y]:=by
 obtain ⟨hl,e⟩:=List.getElem?_eq_some_iff.1 h
 have:=List.take_append_drop (s.length-1) s
 rw [List.drop_eq_getElem_cons hl,e,List.drop_eq_nil_of_le (by omega)] at this
 exact this.symm
theorem Jhk {s:List UInt8} {y:UInt8} (h:s[s.length-1]? = some y) (hb:isB y=true):ZZ s=ZZ (s.take (s.length-1)):=by
 have e:=Jig h
 generalize hr:s.take (s.length-1)=r at *
 rw [e];unfold ZZ;rw [List.reverse_append];simp [List.dropWhile_cons,hb]
theorem Ji9 {s:List UInt8} {y:UInt8} (h:s[s.length-1]? = some y) (hb:isB y=false):ZZ s=s:=by
 have e:=Jig h
 generalize hr:s.take (s.length-1)=r at *
 rw [e];unfold ZZ;rw [List.reverse_append];simp [List.dropWhile_cons,hb]
theorem Jks {s:List UInt8} (h:((s.length:Nat):Int)≤0):s=[]:=List.eq_nil_of_length_eq_zero (by omega)
theorem Jja {s:List UInt8} (h:((s.length:Nat):Int)≤0):YV s=s:=by rw [Jks h];rfl
theorem Jjb {s:List UInt8} (h:((s.length:Nat):Int)≤0):ZZ s=s:=by rw [Jks h];rfl
theorem VJ {p:UInt8→Bool}:∀ {s:List UInt8},s.dropWhile p=[] ↔ ∀ b∈s,p b=true
 | []=>by simp
 | x::r=>by
  rw [List.dropWhile_cons]
  split
  ·
   rename_i h;rw [VJ];simp [h]
  ·
   rename_i h;simp [h]
theorem Jay {p:UInt8→Bool}:∀ {s:List UInt8} {x:UInt8},(s.dropWhile p).head? = some x→p x=false
 | [],_,h=>by cases h
 | y::r,x,h=>by
  rw [List.dropWhile_cons] at h
  split at h
  ·
   exact Jay h
  ·
   rename_i hy;simp at h;subst h;simpa using hy
theorem JeN {s:List UInt8}:Jax s=[] ↔ ∀ b∈s,isB b=true:=by
 unfold Jax YV
 rw [VJ]
 constructor
 ·
  intro h
  by_cases e:s.reverse.dropWhile isB=[]
  ·
   rw [VJ] at e;simpa using e
  ·
   exfalso
   obtain ⟨x,hx⟩:∃ x,(s.reverse.dropWhile isB).head? = some x:=by
    cases hh:s.reverse.dropWhile isB with
    | nil=>exact absurd hh e
    | cons x r=>exact ⟨x,rfl⟩
   have h1:=Jay hx
   have h2:x∈ZZ s:=by unfold ZZ;rw [List.mem_reverse];exact List.mem_of_mem_head? hx
   rw [h x h2] at h1;cases h1
 ·
  intro h b hb
  unfold ZZ at hb
  rw [List.mem_reverse] at hb
  exact h b (List.mem_reverse.1 ((List.dropWhile_sublist _).subset hb))
theorem Jjc (s:List UInt8):(ZZ s).length≤s.length:=by
 unfold ZZ;rw [List.length_reverse];have:=(List.dropWhile_sublist (p:=isB) (l:=s.reverse)).length_le;rw [List.length_reverse] at this;exact this
def Jca:List Value:=(List.range 256).map fun (j:Nat)=>Bo (ZQ (j:Int))
theorem Jkt {k:Nat} (hk:k<256):Jca[k]? = some (Bo (ZQ (k:Int))):=by
 unfold Jca;simp [hk]
theorem asc_at {G:Jt} {b k:Nat} {cs:List Value} (hz:∀ j v,cs[j]? = some v→G b (0+j)=some v) (hc:cs=Jca) (hk:k<256):∀ j v,[Bo (ZQ (k:Int))][j]? = some v→G b (0+k*1+j)=some v:=by
 intro j v hv
 cases j with
 | zero =>
  simp at hv;subst hv hc
  have:=hz k _ (Jkt hk)
  rw [Nat.mul_one,Nat.add_zero];exact this
 | succ j=>simp at hv
set_option maxRecDepth 4000 in
theorem Jhl (G:Jt):QE Tryz.prog 166 #[Sr [48,49]] G [] (fun u G' L'=>u=.tuple #[.agg Jca.toArray,Bo true]):=by
 refine JL Tryz.func166 21 [(0,Sr ([48,49]))] rfl (fun w0 G0=>?_)
 refine Je (Jb ?_)
 refine Ju 2 #[Bo false,Bo false,Bo false,Bo false,Bo false,Bo false,Bo false,Bo false,Bo false,Bo false,Bo false,Bo false,Bo false,Bo false,Bo false,Bo false,Bo false,Bo false,Bo false,Bo false,Bo false,Bo false,Bo false,Bo false,Bo false,Bo false,Bo false,Bo false,Bo false,Bo false,Bo false,Bo false,Bo false,Bo false,Bo false,Bo false,Bo false,Bo false,Bo false,Bo false,Bo false,Bo false,Bo false,Bo false,Bo false,Bo false,Bo false,Bo false,Bo false,Bo false,Bo false,Bo false,Bo false,Bo false,Bo false,Bo false,Bo false,Bo false,Bo false,Bo false,Bo false,Bo false,Bo false,Bo false,Bo false,Bo false,Bo false,Bo false,Bo false,Bo false,Bo false,Bo false,Bo false,Bo false,Bo false,Bo false,Bo false,Bo false,Bo false,Bo false,Bo false,Bo false,Bo false,Bo false,Bo false,Bo false,Bo false,Bo false,Bo false,Bo false,Bo false,Bo false,Bo false,Bo false,Bo false,Bo false,Bo false,Bo false,Bo false,Bo false,Bo false,Bo false,Bo false,Bo false,Bo false,Bo false,Bo false,Bo false,Bo false,Bo false,Bo false,Bo false,Bo false,Bo false,Bo false,Bo false,Bo false,Bo false,Bo false,Bo false,Bo false,Bo false,Bo false,Bo false,Bo false,Bo false,Bo false,Bo false,Bo false,Bo false,Bo false,Bo false,Bo false,Bo false,Bo false,Bo false,Bo false,Bo false,Bo false,Bo false,Bo false,Bo false,Bo false,Bo false,Bo false,Bo false,Bo false,Bo false,Bo false,Bo false,Bo false,Bo false,Bo false,Bo false,Bo false,Bo false,Bo false,Bo false,Bo false,Bo false,Bo false,Bo false,Bo false,Bo false,Bo false,Bo false,Bo false,Bo false,Bo false,Bo false,Bo false,Bo false,Bo false,Bo false,Bo false,Bo false,Bo false,Bo false,Bo false,Bo false,Bo false,Bo false,Bo false,Bo false,Bo false,Bo false,Bo false,Bo false,Bo false,Bo false,Bo false,Bo false,Bo false,Bo false,Bo false,Bo false,Bo false,Bo false,Bo false,Bo false,Bo false,Bo false,Bo false,Bo false,Bo false,Bo false,Bo false,Bo false,Bo false,Bo false,Bo false,Bo false,Bo false,Bo false,Bo false,Bo false,Bo false,Bo false,Bo false,Bo false,Bo false,Bo false,Bo false,Bo false,Bo false,Bo false,Bo false,Bo false,Bo false,Bo false,Bo false,Bo false,Bo false,Bo false,Bo false,Bo false,Bo false,Bo false,Bo false,Bo false,Bo false,Bo false,Bo false,Bo false,Bo false,Bo false,Bo false,Bo false,Bo false,Bo false,Bo false,Bo false,Bo false,Bo false,Bo false,Bo false] 259 (fun b1=>?_)
 refine Jc [0] [(0,Sr ([48,49])),(2,Pt b1 0)] (Jd (Ja (Je ?_)))
 refine Jg [0] [(0,Sr ([48,49])),(2,Pt b1 0),(4,I 0)] (Jy ?_)
 refine JbV 3 ?_
 refine Q1 ?_
 refine Je ?_
 refine Jg [0,0,0,0] [(0,Sr ([48,49])),(2,Pt b1 0),(4,I 0),(9,Bo true)] ?_
 refine J0 ?_
 refine Jm (Ja (Je (Jy ?_)))
 refine Jg [0,0,0,0] [(0,Sr ([48,49])),(2,Pt b1 0),(4,I 0),(5,Y 48)] (Je ?_)
 refine Jg [0,0] [(0,Sr ([48,49])),(2,Pt b1 0),(4,I 0),(5,Y 48),(16,Bo false)] ?_
 refine Qm ?_
 refine Jm (Ja (Jb ?_))
 refine Kb [0,0,3] [(0,Sr ([48,49])),(2,Pt b1 0),(4,I 0)] [[Sg b1 0 [Bo false,Bo false,Bo false,Bo false,Bo false,Bo false,Bo false,Bo false,Bo false,Bo false,Bo false,Bo false,Bo false,Bo false,Bo false,Bo false,Bo false,Bo false,Bo false,Bo false,Bo false,Bo false,Bo false,Bo false,Bo false,Bo false,Bo false,Bo false,Bo false,Bo false,Bo false,Bo false,Bo false,Bo false,Bo false,Bo false,Bo false,Bo false,Bo false,Bo false,Bo false,Bo false,Bo false,Bo false,Bo false,Bo false,Bo false,Bo false,Bo true,Bo false,Bo false,Bo false,Bo false,Bo false,Bo false,Bo false,Bo false,Bo false,Bo false,Bo false,Bo false,Bo false,Bo false,Bo false,Bo false,Bo false,Bo false,Bo false,Bo false,Bo false,Bo false,Bo false,Bo false,Bo false,Bo false,Bo false,Bo false,Bo false,Bo false,Bo false,Bo false,Bo false,Bo false,Bo false,Bo false,Bo false,Bo false,Bo false,Bo false,Bo false,Bo false,Bo false,Bo false,Bo false,Bo false,Bo false,Bo false,Bo false,Bo false,Bo false,Bo false,Bo false,Bo false,Bo false,Bo false,Bo false,Bo false,Bo false,Bo false,Bo false,Bo false,Bo false,Bo false,Bo false,Bo false,Bo false,Bo false,Bo false,Bo false,Bo false,Bo false,Bo false,Bo false,Bo false,Bo false,Bo false,Bo false,Bo false,Bo false,Bo false,Bo false,Bo false,Bo false,Bo false,Bo false,Bo false,Bo false,Bo false,Bo false,Bo false,Bo false,Bo false,Bo false,Bo false,Bo false,Bo false,Bo false,Bo false,Bo false,Bo false,Bo false,Bo false,Bo false,Bo false,Bo false,Bo false,Bo false,Bo false,Bo false,Bo false,Bo false,Bo false,Bo false,Bo false,Bo false,Bo false,Bo false,Bo false,Bo false,Bo false,Bo false,Bo false,Bo false,Bo false,Bo false,Bo false,Bo false,Bo false,Bo false,Bo false,Bo false,Bo false,Bo false,Bo false,Bo false,Bo false,Bo false,Bo false,Bo false,Bo false,Bo false,Bo false,Bo false,Bo false,Bo false,Bo false,Bo false,Bo false,Bo false,Bo false,Bo false,Bo false,Bo false,Bo false,Bo false,Bo false,Bo false,Bo false,Bo false,Bo false,Bo false,Bo false,Bo false,Bo false,Bo false,Bo false,Bo false,Bo false,Bo false,Bo false,Bo false,Bo false,Bo false,Bo false,Bo false,Bo false,Bo false,Bo false,Bo false,Bo false,Bo false,Bo false,Bo false,Bo false,Bo false,Bo false,Bo false,Bo false,Bo false,Bo false,Bo false,Bo false,Bo false,Bo false,Bo false,Bo false,Bo false,Bo false,Bo false,Bo false,Bo false,Bo false,Bo false,Bo false,Bo false,Bo false]]] (Jd (JK (Ja (Jb ?_))))
 refine Jc [0,0,0] [(0,Sr ([48,49])),(2,Pt b1 0),(4,I 1)] (Jd ?_)
 refine Wd ?_
 refine Q1 ?_
 refine Je ?_
 refine Jg [0,0,0,0] [(0,Sr ([48,49])),(2,Pt b1 0),(4,I 1),(9,Bo true)] ?_
 refine J0 ?_
 refine Jm (Ja (Je (Jy ?_)))
 refine Jg [0,0,0,0] [(0,Sr ([48,49])),(2,Pt b1 0),(4,I 1),(5,Y 49)] (Je ?_)
 refine Jg [0,0] [(0,Sr ([48,49])),(2,Pt b1 0),(4,I 1),(5,Y 49),(16,Bo false)] ?_
 refine Qm ?_
 refine Jm (Ja (Jb ?_))
 refine Kb [0,0,3] [(0,Sr ([48,49])),(2,Pt b1 0),(4,I 1)] [[Sg b1 0 Jca]] (Jd (JK (Ja (Jb ?_))))
 refine Jc [0,0,0] [(0,Sr ([48,49])),(2,Pt b1 0),(4,I 2)] (Jd ?_)
 refine Wd ?_
 refine Q1 ?_
 refine Je ?_
 refine Jg [0,0,0,0] [(0,Sr ([48,49])),(2,Pt b1 0),(4,I 2),(9,Bo false)] ?_
 refine Qm ?_
 refine KU (J3 (J3 (JW (Ja ?_))))
 refine Jg [2,3,0] [(2,Pt b1 0),(3,Bo true)] (Jk ?_)
 refine Jl [0,0] [.agg Jca.toArray,Bo true] (Jv (Jt.le_refl _) ?_)
 rfl
theorem Jdy (G:Jt) (b_as:Nat) (hz_as:∀ j v,(Jca:List Value)[j]? = some v→G b_as (0+j)=some v) (c:Int) (hw_c:0≤c∧c<256) :QE Tryz.prog 188 #[Pt b_as 0,Y c] G [] (fun u G' L'=>u=Bo (ZQ c)):=by
 refine JL Tryz.func188 10 [(0,Pt b_as 0),(1,Y c)] rfl (fun w0 G0=>?_)
 refine Jg [0] [(0,Pt b_as 0),(1,Y c)] (Je (Jb ?_))
 refine Jc [0,0,0] [(6,Y c),(7,Pt b_as 0)] ?_
 obtain ⟨kn1,hkn1⟩:∃ k_:Nat,c=(k_:Int):=⟨(c).toNat,by omega⟩
 have e1:c=(kn1:Int):=hkn1
 refine Jc [] [(6,Y c),(7,Pt b_as 0)] ?_
 refine J2 (fr':=[(6,Y (kn1:Int)),(7,Pt b_as 0)]) (L':=[]) (by (simp only [e1];done)) (by rfl) ?_
 refine JiD (b:=b_as) (off:=0) (ik:=.u8) 8 4 1 256 kn1 (by omega) ?_
 refine J9 (o':=0+kn1*1) 9 4 (cs:=[Bo (ZQ (kn1:Int))]) 0 (Bo (ZQ (kn1:Int))) (asc_at hz_as rfl (by omega)) ?_
 refine Jc [0] [(4,Bo (ZQ (kn1:Int)))] (Jd (Ja (Jk ?_)))
 refine Jl [0] [Bo (ZQ (kn1:Int))] (Jv (Jt.le_refl _) ?_)
 have hf_:(ZQ c)=(ZQ (kn1:Int)):=by
  rw [hkn1]
 · (try rw [hf_]);(simp only [JM];done)
theorem Jjd (G:Jt) (s:List UInt8) (hw_s:(s).length≤140737488351232) (b_as:Nat) (hz_as:∀ j v,(Jca:List Value)[j]? = some v→G b_as (0+j)=some v) :QE Tryz.prog 167 #[Sr s,Pt b_as 0] G [] (fun u G' L'=>u=Sr (YV s)):=by
 refine JL Tryz.func167 16 [(0,Sr s),(1,Pt b_as 0)] rfl (fun w0 G0=>?_)
 refine Jg [0] [(0,Sr s),(1,Pt b_as 0)] (Je (Jy ?_))
 refine Qb (σ:=List UInt8) (fun q_=>(q_.length≤140737488351232)∧(YV s=YV q_)) (fun q_=>[(0,Sr q_),(1,Pt b_as 0)]) (fun q_=>G) (fun q_=>[]) (fun q_=>q_.length) s ⟨hw_s,rfl⟩ (fun q_ hs=>?_)
 revert hs;revert q_;intro t hs
 obtain ⟨ht,hn⟩:=hs
 refine KJ (fr':=[(0,Sr t),(1,Pt b_as 0)]) (L':=[]) rfl rfl ?_
 refine Je ?_
 refine Jg [0,0,0] [(0,Sr t),(1,Pt b_as 0),(7,Bo (decide (((t).length:Int) > 0)))] ?_
 refine Jo (decide (((t).length:Int) > 0)) (fun h1=>?_) (fun h1=>?_)
 try simp only [BB] at h1
 refine Jm (Ja (Jy (Je (Je (Jb ?_)))))
 refine Jc [0,0] [(0,Sr t),(1,Pt b_as 0),(8,Pt b_as 0),(9,Sr t)] ?_
 obtain ⟨y1,hy1⟩:=Q8 (l:=t) (k:=0) (by omega)
 have hb_y1:=y1.toNat_lt
 refine VO (ik:=.i64) 10 0 y1 hy1 ?_
 refine Ji 11 (Bo (ZQ (y1.toNat:Int))) (Jdy G b_as hz_as (y1.toNat:Int) (by omega)) ?_
 refine Jc [0] [(0,Sr t),(1,Pt b_as 0),(12,Bo (!(ZQ (y1.toNat:Int))))] (Jd (Ja ?_))
 refine Jo (!(ZQ (y1.toNat:Int))) (fun h2=>?_) (fun h2=>?_)
 try simp only [BB] at h2
 refine KU (J3 ?_)
 refine Yz rfl ?_
 refine Ke (JW (Ja ?_))
 refine Jg [0,0] [(4,Sr t)] (Jk ?_)
 refine Jl [0] [Sr t] (Jv (Jt.le_refl _) ?_)
 have hf_:(YV s)=t:=by
  rw [hn];exact Ji8 hy1 (by simp_all [VF])
 · (try rw [hf_]);(simp only [JM];done)
 try simp only [BB] at h2
 refine Jm (Ja (Jb ?_))
 refine Jc [0] [(0,Sr t),(1,Pt b_as 0),(13,Sr t)] ?_
 refine JiH (l:=t) 14 (some (I 1)) none 1 0 (.inr ⟨_,rfl⟩) (.inl ⟨rfl,rfl⟩) (by omega) ?_
 refine Jc [0] [(0,Sr (t.drop 1)),(1,Pt b_as 0)] (Jd (JK ?_))
 exact Qd (t.drop 1) ⟨(by (try dsimp only);(try simp only [List.length_drop,List.length_take]);omega),(by (try dsimp only);rw [hn];exact Jhj hy1 (by simp_all [VF]))⟩ (by (try dsimp only);(try simp only [List.length_drop,List.length_take]);omega)
 try simp only [BB] at h1
 refine KU (J3 (Ke (JW (Ja ?_))))
 refine Jg [0,0] [(4,Sr t)] (Jk ?_)
 refine Jl [0] [Sr t] (Jv (Jt.le_refl _) ?_)
 have hf_:(YV s)=t:=by
  rw [hn];exact Jja (by omega)
 · (try rw [hf_]);(simp only [JM];done)
theorem Jje (G:Jt) (s:List UInt8) (hw_s:(s).length≤140737488351232) (b_as:Nat) (hz_as:∀ j v,(Jca:List Value)[j]? = some v→G b_as (0+j)=some v) :QE Tryz.prog 168 #[Sr s,Pt b_as 0] G [] (fun u G' L'=>u=Sr (ZZ s)):=by
 refine JL Tryz.func168 22 [(0,Sr s),(1,Pt b_as 0)] rfl (fun w0 G0=>?_)
 refine Jg [0] [(0,Sr s),(1,Pt b_as 0)] (Je (Jy ?_))
 refine Qb (σ:=List UInt8) (fun q_=>(q_.length≤140737488351232)∧(ZZ s=ZZ q_)) (fun q_=>[(0,Sr q_),(1,Pt b_as 0)]) (fun q_=>G) (fun q_=>[]) (fun q_=>q_.length) s ⟨hw_s,rfl⟩ (fun q_ hs=>?_)
 revert hs;revert q_;intro t hs
 obtain ⟨ht,hn⟩:=hs
 refine KJ (fr':=[(0,Sr t),(1,Pt b_as 0)]) (L':=[]) rfl rfl ?_
 refine Je ?_
 refine Jg [0,0,0] [(0,Sr t),(1,Pt b_as 0),(7,Bo (decide (((t).length:Int) > 0)))] ?_
 refine Jo (decide (((t).length:Int) > 0)) (fun h1=>?_) (fun h1=>?_)
 try simp only [BB] at h1
 refine Jm (Ja (Jy (Je (Je (Jb ?_)))))
 refine Jc [0,0,0,0,0] [(0,Sr t),(1,Pt b_as 0),(8,Pt b_as 0),(9,Sr t),(12,I (IntKind.i64.wrap (((t).length:Int)-1)))] ?_
 have e1:IntKind.i64.wrap (((t).length:Int)-1)=((t.length-1:Nat):Int):=(IntWalk.i64_in _ (by omega)).trans (show ((t).length:Int)-1=((t.length-1:Nat):Int) by omega)
 refine J2 (fr':=[(0,Sr t),(1,Pt b_as 0),(8,Pt b_as 0),(9,Sr t),(12,I ((t.length-1:Nat):Int))]) (L':=[]) (by simp only [e1]) (by rfl) ?_
 clear e1
 obtain ⟨y1,hy1⟩:=Q8 (l:=t) (k:=t.length-1) (by omega)
 have hb_y1:=y1.toNat_lt
 refine VO (ik:=.i64) 13 (t.length-1) y1 hy1 ?_
 refine Ji 14 (Bo (ZQ (y1.toNat:Int))) (Jdy G b_as hz_as (y1.toNat:Int) (by omega)) ?_
 refine Jc [0] [(0,Sr t),(1,Pt b_as 0),(15,Bo (!(ZQ (y1.toNat:Int))))] (Jd (Ja ?_))
 refine Jo (!(ZQ (y1.toNat:Int))) (fun h2=>?_) (fun h2=>?_)
 try simp only [BB] at h2
 refine KU (J3 ?_)
 refine Yz rfl ?_
 refine Ke (JW (Ja ?_))
 refine Jg [0,0] [(4,Sr t)] (Jk ?_)
 refine Jl [0] [Sr t] (Jv (Jt.le_refl _) ?_)
 have hf_:(ZZ s)=t:=by
  rw [hn];exact Ji9 hy1 (by simp_all [VF])
 · (try rw [hf_]);(simp only [JM];done)
 try simp only [BB] at h2
 refine Jm (Ja (Jb ?_))
 refine Jc [0,0,0,0] [(0,Sr t),(1,Pt b_as 0),(16,Sr t),(19,I (IntKind.i64.wrap (((t).length:Int)-1)))] ?_
 have e2:IntKind.i64.wrap (((t).length:Int)-1)=((t.length-1:Nat):Int):=(IntWalk.i64_in _ (by omega)).trans (show ((t).length:Int)-1=((t.length-1:Nat):Int) by omega)
 refine J2 (fr':=[(0,Sr t),(1,Pt b_as 0),(16,Sr t),(19,I ((t.length-1:Nat):Int))]) (L':=[]) (by simp only [e2]) (by rfl) ?_
 clear e2
 refine Jb3 (l:=t) 20 none (some (I ((t.length-1:Nat):Int))) 0 (t.length-1) (.inl ⟨rfl,rfl⟩) (.inr ⟨_,rfl⟩) (Nat.zero_le _) (by omega) ?_
 refine Jc [0] [(0,Sr (t.take (t.length-1))),(1,Pt b_as 0)] (Jd (JK ?_))
 exact Qd (t.take (t.length-1)) ⟨(by (try dsimp only);(try simp only [List.length_drop,List.length_take]);omega),(by (try dsimp only);rw [hn];exact Jhk hy1 (by simp_all [VF]))⟩ (by (try dsimp only);(try simp only [List.length_drop,List.length_take]);omega)
 try simp only [BB] at h1
 refine KU (J3 (Ke (JW (Ja ?_))))
 refine Jg [0,0] [(4,Sr t)] (Jk ?_)
 refine Jl [0] [Sr t] (Jv (Jt.le_refl _) ?_)
 have hf_:(ZZ s)=t:=by
  rw [hn];exact Jjb (by omega)
 · (try rw [hf_]);(simp only [JM];done)
theorem Jjf (G:Jt) (s:List UInt8) (hw_s:(s).length≤140737488351232) :QE Tryz.prog 137 #[Sr s,Sr ([48,49])] G [] (fun u G' L'=>u=Sr (Jax s)):=by
 refine JL Tryz.func137 43 [(0,Sr s),(1,Sr ([48,49]))] rfl (fun w0 G0=>?_)
 refine Jg [0] [(0,Sr s),(1,Sr ([48,49]))] (Je (Je (Jb ?_)))
 refine Jc [0,0,0] [(0,Sr s),(1,Sr ([48,49])),(9,Bo ((B s).toList == (B ([])).toList))] ?_
 refine J2 (fr':=[(0,Sr s),(1,Sr ([48,49])),(9,Bo (s == []))]) (L':=[]) (by simp only [WW]) (by rfl) ?_
 refine Ky (s == []) (fun bb=>[(0,Sr s),(1,Sr ([48,49])),(9,Bo bb)]) [1,1,0] [0,0,0] (fun bb=>[(0,Sr s),(1,Sr ([48,49])),(12,Bo (bb || false))]) ?_
 refine Jd (Ja ?_)
 refine Jo ((s == []) || false) (fun h1=>?_) (fun h1=>?_)
 try simp only [BB] at h1
 refine Jg [0,0] [(4,Sr s)] (Jk (Jh ?_))
 refine Jl [0] [Sr s] (Jv (Jt.le_refl _) ?_)
 have hf_:(Jax s)=s:=by
  (simp_all;rfl)
 · (try rw [hf_]);(simp only [JM];done)
 try simp only [BB] at h1
 refine Jm (Ja (Je ?_))
 refine Jg [0,0,0,0,1,1,1,0] [(0,Sr s),(1,Sr ([48,49])),(21,Bo false)] ?_
 refine Qm ?_
 refine Jm (Ja (Je (Je (Jb ?_))))
 refine Jc [0] [(0,Sr s),(1,Sr ([48,49])),(30,Sr ([48,49]))] ?_
 refine Ji 31 (.tuple #[.agg Jca.toArray,Bo true]) (Jhl G) ?_
 refine Jc [0,0,0] [(0,Sr s),(1,Sr ([48,49])),(32,.agg Jca.toArray),(33,Bo true)] ?_
 refine Ju 5 #[Bo false,Bo false,Bo false,Bo false,Bo false,Bo false,Bo false,Bo false,Bo false,Bo false,Bo false,Bo false,Bo false,Bo false,Bo false,Bo false,Bo false,Bo false,Bo false,Bo false,Bo false,Bo false,Bo false,Bo false,Bo false,Bo false,Bo false,Bo false,Bo false,Bo false,Bo false,Bo false,Bo false,Bo false,Bo false,Bo false,Bo false,Bo false,Bo false,Bo false,Bo false,Bo false,Bo false,Bo false,Bo false,Bo false,Bo false,Bo false,Bo false,Bo false,Bo false,Bo false,Bo false,Bo false,Bo false,Bo false,Bo false,Bo false,Bo false,Bo false,Bo false,Bo false,Bo false,Bo false,Bo false,Bo false,Bo false,Bo false,Bo false,Bo false,Bo false,Bo false,Bo false,Bo false,Bo false,Bo false,Bo false,Bo false,Bo false,Bo false,Bo false,Bo false,Bo false,Bo false,Bo false,Bo false,Bo false,Bo false,Bo false,Bo false,Bo false,Bo false,Bo false,Bo false,Bo false,Bo false,Bo false,Bo false,Bo false,Bo false,Bo false,Bo false,Bo false,Bo false,Bo false,Bo false,Bo false,Bo false,Bo false,Bo false,Bo false,Bo false,Bo false,Bo false,Bo false,Bo false,Bo false,Bo false,Bo false,Bo false,Bo false,Bo false,Bo false,Bo false,Bo false,Bo false,Bo false,Bo false,Bo false,Bo false,Bo false,Bo false,Bo false,Bo false,Bo false,Bo false,Bo false,Bo false,Bo false,Bo false,Bo false,Bo false,Bo false,Bo false,Bo false,Bo false,Bo false,Bo false,Bo false,Bo false,Bo false,Bo false,Bo false,Bo false,Bo false,Bo false,Bo false,Bo false,Bo false,Bo false,Bo false,Bo false,Bo false,Bo false,Bo false,Bo false,Bo false,Bo false,Bo false,Bo false,Bo false,Bo false,Bo false,Bo false,Bo false,Bo false,Bo false,Bo false,Bo false,Bo false,Bo false,Bo false,Bo false,Bo false,Bo false,Bo false,Bo false,Bo false,Bo false,Bo false,Bo false,Bo false,Bo false,Bo false,Bo false,Bo false,Bo false,Bo false,Bo false,Bo false,Bo false,Bo false,Bo false,Bo false,Bo false,Bo false,Bo false,Bo false,Bo false,Bo false,Bo false,Bo false,Bo false,Bo false,Bo false,Bo false,Bo false,Bo false,Bo false,Bo false,Bo false,Bo false,Bo false,Bo false,Bo false,Bo false,Bo false,Bo false,Bo false,Bo false,Bo false,Bo false,Bo false,Bo false,Bo false,Bo false,Bo false,Bo false,Bo false,Bo false,Bo false,Bo false,Bo false,Bo false,Bo false,Bo false,Bo false,Bo false,Bo false,Bo false,Bo false,Bo false,Bo false,Bo false,Bo false,Bo false] 259 (fun b1=>?_)
 refine Kb [3,0] [(0,Sr s),(1,Sr ([48,49])),(5,Pt b1 0),(6,Bo true)] [[Sg b1 0 Jca]] (Jd (Ja ?_))
 refine Jg [0] [(0,Sr s),(1,Sr ([48,49])),(5,Pt b1 0),(34,Bo true)] ?_
 refine J0 ?_
 refine Je (Jb ?_)
 refine Jc [0] [(5,Pt b1 0),(35,Sr s)] ?_
 refine QJ (b:=b1) (o:=0) (cs:=Jca) 0 (fun G1 hl1 hz1=>?_)
 refine Ji 36 (Sr (ZZ s)) (Jje G1 s ‹_› b1 hz1) ?_
 refine Ji 37 (Sr (YV (ZZ s))) (Jjd G1 (ZZ s) (Nat.le_trans (Jjc s) hw_s) b1 hz1) ?_
 refine Jc [0] [(4,Sr (YV (ZZ s)))] (Jd (Ja (Jk (Jh ?_))))
 refine Jl [0] [Sr (YV (ZZ s))] (Jv hl1 ?_)
 have hf_:(Jax s)=YV (ZZ s):=by
  rfl
 · (try rw [hf_]);(simp only [JM];done)
theorem Jhm (G:Jt) (s:List UInt8) (q:List UInt8) :QE Tryz.prog 195 #[Sr s,Sr q] G [] (fun u G' L'=>u=Bo (decide (q <+: s))):=by
 refine JL Tryz.func195 18 [(0,Sr s),(1,Sr q)] rfl (fun w0 G0=>?_)
 refine Jg [0] [(0,Sr s),(1,Sr q)] (Je (Jb ?_))
 refine Jc [0,0,0,0,0,0] [(0,Sr s),(1,Sr q),(10,Bo (decide (((s).length:Int) ≥ ((q).length:Int))))] ?_
 refine QZ (fun bb=>[(0,Sr s),(1,Sr q),(10,Bo bb)]) (decide (((s).length:Int) ≥ ((q).length:Int))) (fun h1=>?_) (fun h1=>?_)
 try simp only [BB] at h1
 refine Jc [0,0,0] [(1,Sr q),(10,Bo true),(11,Sr s),(13,I ((q).length:Int))] ?_
 refine Jb3 (l:=s) 14 none (some (I ((q).length:Int))) 0 ((q).length) (.inl ⟨rfl,rfl⟩) (.inr ⟨_,rfl⟩) (Nat.zero_le _) (by omega) ?_
 refine Jc [0,0,0,0] [(4,Bo ((B (s.take ((q).length))).toList == (B q).toList))] ?_
 refine J2 (fr':=[(4,Bo (s.take ((q).length) == q))]) (L':=[]) (by simp only [WW]) (by rfl) ?_
 refine Jd (Ja (Jk ?_))
 refine Jl [0] [Bo (s.take ((q).length) == q)] (Jv (Jt.le_refl _) ?_)
 have hf_:(decide (q <+: s))=(s.take ((q).length) == q):=by
  (rw [Bool.eq_iff_iff];simp only [decide_eq_true_eq,beq_iff_eq,List.prefix_iff_eq_take];exact eq_comm)
 · (try rw [hf_]);(simp only [JM];done)
 try simp only [BB] at h1
 refine Jc [1,1,1,1,1,1,0,0] [(4,Bo false)] (Jd (Ja (Jk ?_)))
 refine Jl [0] [Bo false] (Jv (Jt.le_refl _) ?_)
 have hf_:(decide (q <+: s))=false:=by
  (rw [decide_eq_false];intro hp_;have q_:=hp_.length_le;omega)
 · (try rw [hf_]);(simp only [JM];done)
theorem Jd2 (G:Jt) (s:List UInt8) (q:List UInt8) :QE Tryz.prog 176 #[Sr s,Sr q] G [] (fun u G' L'=>u=Bo (decide (q <+: s))):=by
 refine JL Tryz.func176 8 [(0,Sr s),(1,Sr q)] rfl (fun w0 G0=>?_)
 refine Jg [0] [(0,Sr s),(1,Sr q)] (Je (Jb ?_))
 refine Jc [0,0] [(5,Sr s),(6,Sr q)] ?_
 refine Ji 7 (Bo (decide (q <+: s))) (Jhm G s q) ?_
 refine Jc [0] [(4,Bo (decide (q <+: s)))] (Jd (Ja (Jk ?_)))
 refine Jl [0] [Bo (decide (q <+: s))] (Jv (Jt.le_refl _) ?_)
 have hf_:(decide (q <+: s))=(decide (q <+: s)):=by
  rfl
 · (try rw [hf_]);(simp only [JM];done)
end Go.Proofs.YtnnlpbjdignhaaaGreatDoor
