import Derived.Test.YtnnlpbjdignhaaaGreatDoorThTy
namespace Go.Proofs.YtnnlpbjdignhaaaGreatDoor
open Go.Tx
set_option linter.unusedVariables false
set_option linter.unusedSimpArgs false
def isB (b:UInt8):Bool:=b == 48 || b == 49
def JdR (c:Int):Bool:=decide (c = 48) || decide (c = 49)
theorem Jfy (b:UInt8):JdR (b.toNat:Int) = isB b:=by
 have e1:((b.toNat:Int) = 48) ↔ b = 48:=⟨fun h=>UInt8.toNat_inj.1 (by have q:b.toNat = 48:=(by omega);simpa using q),fun h=>by subst h;rfl⟩
 have e2:((b.toNat:Int) = 49) ↔ b = 49:=⟨fun h=>UInt8.toNat_inj.1 (by have q:b.toNat = 49:=(by omega);simpa using q),fun h=>by subst h;rfl⟩
 unfold JdR isB;rw [Bool.eq_iff_iff];simp [e1,e2]
def JeT (s:List UInt8):List UInt8:=s.dropWhile isB
def Jd0 (s:List UInt8):List UInt8:=(s.reverse.dropWhile isB).reverse
def Jgp (s:List UInt8):List UInt8:=JeT (Jd0 s)
theorem Jm9 {s:List UInt8} {y:UInt8} (h:s[0]? = some y) (hb:isB y = true):JeT s = JeT (s.drop 1):=by
 cases s with
 | nil=>cases h
 | cons x r=>simp at h;subst h;simp [JeT,List.dropWhile_cons,hb]
theorem JoY {s:List UInt8} {y:UInt8} (h:s[0]? = some y) (hb:isB y = false):JeT s = s:=by
 cases s with
 | nil=>cases h
 | cons x r=>simp at h;subst h;simp [JeT,List.dropWhile_cons,hb]
theorem Jn6 {s:List UInt8} {y:UInt8} (h:s[s.length - 1]? = some y):s = s.take (s.length - 1) ++ [y]:=by
 obtain ⟨hl,e⟩:=List.getElem?_eq_some_iff.1 h
 have:=List.take_append_drop (s.length - 1) s
 rw [List.drop_eq_getElem_cons hl,e,List.drop_eq_nil_of_le (by omega)] at this
 exact this.symm
theorem Jna {s:List UInt8} {y:UInt8} (h:s[s.length - 1]? = some y) (hb:isB y = true):Jd0 s = Jd0 (s.take (s.length - 1)):=by
 have e:=Jn6 h
 generalize hr:s.take (s.length - 1) = r at *
 rw [e];unfold Jd0;rw [List.reverse_append];simp [List.dropWhile_cons,hb]
theorem JoZ {s:List UInt8} {y:UInt8} (h:s[s.length - 1]? = some y) (hb:isB y = false):Jd0 s = s:=by
 have e:=Jn6 h
 generalize hr:s.take (s.length - 1) = r at *
 rw [e];unfold Jd0;rw [List.reverse_append];simp [List.dropWhile_cons,hb]
theorem Jqi {s:List UInt8} (h:((s.length:Nat):Int) ≤ 0):s = []:=List.eq_nil_of_length_eq_zero (by omega)
theorem Jo0 {s:List UInt8} (h:((s.length:Nat):Int) ≤ 0):JeT s = s:=by rw [Jqi h];rfl
theorem Jo1 {s:List UInt8} (h:((s.length:Nat):Int) ≤ 0):Jd0 s = s:=by rw [Jqi h];rfl
theorem JfC {p:UInt8 → Bool}:∀ {s:List UInt8},s.dropWhile p = [] ↔ ∀ b ∈ s,p b = true
 | []=>by simp
 | x :: r=>by
  rw [List.dropWhile_cons]
  split
  ·
   rename_i h;rw [JfC];simp [h]
  ·
   rename_i h;simp [h]
theorem Jgq {p:UInt8 → Bool}:∀ {s:List UInt8} {x:UInt8},(s.dropWhile p).head? = some x → p x = false
 | [],_,h=>by cases h
 | y :: r,x,h=>by
  rw [List.dropWhile_cons] at h
  split at h
  ·
   exact Jgq h
  ·
   rename_i hy;simp at h;subst h;simpa using hy
theorem JkF {s:List UInt8}:Jgp s = [] ↔ ∀ b ∈ s,isB b = true:=by
 unfold Jgp JeT
 rw [JfC]
 constructor
 ·
  intro h
  by_cases e:s.reverse.dropWhile isB = []
  ·
   rw [JfC] at e;simpa using e
  ·
   exfalso
   obtain ⟨x,hx⟩:∃ x,(s.reverse.dropWhile isB).head? = some x:=by
    cases hh:s.reverse.dropWhile isB with
    | nil=>exact absurd hh e
    | cons x r=>exact ⟨x,rfl⟩
   have h1:=Jgq hx
   have h2:x ∈ Jd0 s:=by unfold Jd0;rw [List.mem_reverse];exact List.mem_of_mem_head? hx
   rw [h x h2] at h1;cases h1
 ·
  intro h b hb
  unfold Jd0 at hb
  rw [List.mem_reverse] at hb
  exact h b (List.mem_reverse.1 ((List.dropWhile_sublist _).subset hb))
theorem Jo2 (s:List UInt8):(Jd0 s).length ≤ s.length:=by
 unfold Jd0;rw [List.length_reverse];have:=(List.dropWhile_sublist (p:=isB) (l:=s.reverse)).length_le;rw [List.length_reverse] at this;exact this
def Jh3:List Value:=(List.range 256).map fun (j:Nat)=>Bo (JdR (j:Int))
theorem Jqj {k:Nat} (hk:k < 256):Jh3[k]? = some (Bo (JdR (k:Int))):=by
 unfold Jh3;simp [hk]
theorem asc_at {G:Jt} {b k:Nat} {cs:List Value} (hz:∀ j v,cs[j]? = some v → G b (0 + j) = some v) (hc:cs = Jh3) (hk:k < 256):∀ j v,[Bo (JdR (k:Int))][j]? = some v → G b (0 + k * 1 + j) = some v:=by
 intro j v hv
 cases j with
 | zero =>
  simp at hv;subst hv hc
  have:=hz k _ (Jqj hk)
  rw [Nat.mul_one,Nat.add_zero];exact this
 | succ j=>simp at hv
set_option maxRecDepth 4000 in
theorem Jnb (G:Jt):Con Tryz.prog 166 #[Sr [48,49]] G [] (fun u G' L'=>u = .tuple #[.agg Jh3.toArray,Bo true]):=by
 refine JL Tryz.func166 21 [(0,Sr ([48,49]))] rfl (fun w0 G0=>?_)
 refine Je (Jb ?_)
 refine Ju 2 #[Bo false,Bo false,Bo false,Bo false,Bo false,Bo false,Bo false,Bo false,Bo false,Bo false,Bo false,Bo false,Bo false,Bo false,Bo false,Bo false,Bo false,Bo false,Bo false,Bo false,Bo false,Bo false,Bo false,Bo false,Bo false,Bo false,Bo false,Bo false,Bo false,Bo false,Bo false,Bo false,Bo false,Bo false,Bo false,Bo false,Bo false,Bo false,Bo false,Bo false,Bo false,Bo false,Bo false,Bo false,Bo false,Bo false,Bo false,Bo false,Bo false,Bo false,Bo false,Bo false,Bo false,Bo false,Bo false,Bo false,Bo false,Bo false,Bo false,Bo false,Bo false,Bo false,Bo false,Bo false,Bo false,Bo false,Bo false,Bo false,Bo false,Bo false,Bo false,Bo false,Bo false,Bo false,Bo false,Bo false,Bo false,Bo false,Bo false,Bo false,Bo false,Bo false,Bo false,Bo false,Bo false,Bo false,Bo false,Bo false,Bo false,Bo false,Bo false,Bo false,Bo false,Bo false,Bo false,Bo false,Bo false,Bo false,Bo false,Bo false,Bo false,Bo false,Bo false,Bo false,Bo false,Bo false,Bo false,Bo false,Bo false,Bo false,Bo false,Bo false,Bo false,Bo false,Bo false,Bo false,Bo false,Bo false,Bo false,Bo false,Bo false,Bo false,Bo false,Bo false,Bo false,Bo false,Bo false,Bo false,Bo false,Bo false,Bo false,Bo false,Bo false,Bo false,Bo false,Bo false,Bo false,Bo false,Bo false,Bo false,Bo false,Bo false,Bo false,Bo false,Bo false,Bo false,Bo false,Bo false,Bo false,Bo false,Bo false,Bo false,Bo false,Bo false,Bo false,Bo false,Bo false,Bo false,Bo false,Bo false,Bo false,Bo false,Bo false,Bo false,Bo false,Bo false,Bo false,Bo false,Bo false,Bo false,Bo false,Bo false,Bo false,Bo false,Bo false,Bo false,Bo false,Bo false,Bo false,Bo false,Bo false,Bo false,Bo false,Bo false,Bo false,Bo false,Bo false,Bo false,Bo false,Bo false,Bo false,Bo false,Bo false,Bo false,Bo false,Bo false,Bo false,Bo false,Bo false,Bo false,Bo false,Bo false,Bo false,Bo false,Bo false,Bo false,Bo false,Bo false,Bo false,Bo false,Bo false,Bo false,Bo false,Bo false,Bo false,Bo false,Bo false,Bo false,Bo false,Bo false,Bo false,Bo false,Bo false,Bo false,Bo false,Bo false,Bo false,Bo false,Bo false,Bo false,Bo false,Bo false,Bo false,Bo false,Bo false,Bo false,Bo false,Bo false,Bo false,Bo false,Bo false,Bo false,Bo false,Bo false,Bo false,Bo false,Bo false,Bo false,Bo false,Bo false,Bo false,Bo false,Bo false,Bo false,Bo false,Bo false] 259 (fun b1=>?_)
 refine Jd [0] [(0,Sr ([48,49])),(2,Pt b1 0)] (Jc (Ja (Je ?_)))
 refine Jg [0] [(0,Sr ([48,49])),(2,Pt b1 0),(4,I 0)] (Jy ?_)
 refine JhO 3 ?_
 refine JbX ?_
 refine Je ?_
 refine Jg [0,0,0,0] [(0,Sr ([48,49])),(2,Pt b1 0),(4,I 0),(9,Bo true)] ?_
 refine JT ?_
 refine Jn (Ja (Je (Jy ?_)))
 refine Jg [0,0,0,0] [(0,Sr ([48,49])),(2,Pt b1 0),(4,I 0),(5,Y 48)] (Je ?_)
 refine Jg [0,0] [(0,Sr ([48,49])),(2,Pt b1 0),(4,I 0),(5,Y 48),(16,Bo false)] ?_
 refine Jbk ?_
 refine Jn (Ja (Jb ?_))
 refine Jaa [0,0,3] [(0,Sr ([48,49])),(2,Pt b1 0),(4,I 0)] [[Sg b1 0 [Bo false,Bo false,Bo false,Bo false,Bo false,Bo false,Bo false,Bo false,Bo false,Bo false,Bo false,Bo false,Bo false,Bo false,Bo false,Bo false,Bo false,Bo false,Bo false,Bo false,Bo false,Bo false,Bo false,Bo false,Bo false,Bo false,Bo false,Bo false,Bo false,Bo false,Bo false,Bo false,Bo false,Bo false,Bo false,Bo false,Bo false,Bo false,Bo false,Bo false,Bo false,Bo false,Bo false,Bo false,Bo false,Bo false,Bo false,Bo false,Bo true,Bo false,Bo false,Bo false,Bo false,Bo false,Bo false,Bo false,Bo false,Bo false,Bo false,Bo false,Bo false,Bo false,Bo false,Bo false,Bo false,Bo false,Bo false,Bo false,Bo false,Bo false,Bo false,Bo false,Bo false,Bo false,Bo false,Bo false,Bo false,Bo false,Bo false,Bo false,Bo false,Bo false,Bo false,Bo false,Bo false,Bo false,Bo false,Bo false,Bo false,Bo false,Bo false,Bo false,Bo false,Bo false,Bo false,Bo false,Bo false,Bo false,Bo false,Bo false,Bo false,Bo false,Bo false,Bo false,Bo false,Bo false,Bo false,Bo false,Bo false,Bo false,Bo false,Bo false,Bo false,Bo false,Bo false,Bo false,Bo false,Bo false,Bo false,Bo false,Bo false,Bo false,Bo false,Bo false,Bo false,Bo false,Bo false,Bo false,Bo false,Bo false,Bo false,Bo false,Bo false,Bo false,Bo false,Bo false,Bo false,Bo false,Bo false,Bo false,Bo false,Bo false,Bo false,Bo false,Bo false,Bo false,Bo false,Bo false,Bo false,Bo false,Bo false,Bo false,Bo false,Bo false,Bo false,Bo false,Bo false,Bo false,Bo false,Bo false,Bo false,Bo false,Bo false,Bo false,Bo false,Bo false,Bo false,Bo false,Bo false,Bo false,Bo false,Bo false,Bo false,Bo false,Bo false,Bo false,Bo false,Bo false,Bo false,Bo false,Bo false,Bo false,Bo false,Bo false,Bo false,Bo false,Bo false,Bo false,Bo false,Bo false,Bo false,Bo false,Bo false,Bo false,Bo false,Bo false,Bo false,Bo false,Bo false,Bo false,Bo false,Bo false,Bo false,Bo false,Bo false,Bo false,Bo false,Bo false,Bo false,Bo false,Bo false,Bo false,Bo false,Bo false,Bo false,Bo false,Bo false,Bo false,Bo false,Bo false,Bo false,Bo false,Bo false,Bo false,Bo false,Bo false,Bo false,Bo false,Bo false,Bo false,Bo false,Bo false,Bo false,Bo false,Bo false,Bo false,Bo false,Bo false,Bo false,Bo false,Bo false,Bo false,Bo false,Bo false,Bo false,Bo false,Bo false,Bo false,Bo false,Bo false,Bo false,Bo false,Bo false,Bo false,Bo false,Bo false]]] (Jc (JK (Ja (Jb ?_))))
 refine Jd [0,0,0] [(0,Sr ([48,49])),(2,Pt b1 0),(4,I 1)] (Jc ?_)
 refine Jca ?_
 refine JbX ?_
 refine Je ?_
 refine Jg [0,0,0,0] [(0,Sr ([48,49])),(2,Pt b1 0),(4,I 1),(9,Bo true)] ?_
 refine JT ?_
 refine Jn (Ja (Je (Jy ?_)))
 refine Jg [0,0,0,0] [(0,Sr ([48,49])),(2,Pt b1 0),(4,I 1),(5,Y 49)] (Je ?_)
 refine Jg [0,0] [(0,Sr ([48,49])),(2,Pt b1 0),(4,I 1),(5,Y 49),(16,Bo false)] ?_
 refine Jbk ?_
 refine Jn (Ja (Jb ?_))
 refine Jaa [0,0,3] [(0,Sr ([48,49])),(2,Pt b1 0),(4,I 1)] [[Sg b1 0 Jh3]] (Jc (JK (Ja (Jb ?_))))
 refine Jd [0,0,0] [(0,Sr ([48,49])),(2,Pt b1 0),(4,I 2)] (Jc ?_)
 refine Jca ?_
 refine JbX ?_
 refine Je ?_
 refine Jg [0,0,0,0] [(0,Sr ([48,49])),(2,Pt b1 0),(4,I 2),(9,Bo false)] ?_
 refine Jbk ?_
 refine JaT (J2 (J2 (JW (Ja ?_))))
 refine Jg [2,3,0] [(2,Pt b1 0),(3,Bo true)] (Jk ?_)
 refine Jl [0,0] [.agg Jh3.toArray,Bo true] (Jw (Jt.le_refl _) ?_)
 rfl
theorem Jjs (G:Jt) (b_as:Nat) (hz_as:∀ j v,(Jh3:List Value)[j]? = some v → G b_as (0 + j) = some v) (c:Int) (hw_c:0 ≤ c ∧ c < 256) :Con Tryz.prog 188 #[Pt b_as 0,Y c] G [] (fun u G' L'=>u = Bo (JdR c)):=by
 refine JL Tryz.func188 10 [(0,Pt b_as 0),(1,Y c)] rfl (fun w0 G0=>?_)
 refine Jg [0] [(0,Pt b_as 0),(1,Y c)] (Je (Jb ?_))
 refine Jd [0,0,0] [(6,Y c),(7,Pt b_as 0)] ?_
 obtain ⟨kn1,hkn1⟩:∃ k_:Nat,c = (k_:Int):=⟨(c).toNat,by omega⟩
 have e1:c = (kn1:Int):=hkn1
 refine Jd [] [(6,Y c),(7,Pt b_as 0)] ?_
 refine J1 (fr':=[(6,Y (kn1:Int)),(7,Pt b_as 0)]) (L':=[]) (by (simp only [e1];done)) (by rfl) ?_
 refine Jot (b:=b_as) (off:=0) (ik:=.u8) 8 4 1 256 kn1 (by omega) ?_
 refine J6 (o':=0 + kn1 * 1) 9 4 (cs:=[Bo (JdR (kn1:Int))]) 0 (Bo (JdR (kn1:Int))) (asc_at hz_as rfl (by omega)) ?_
 refine Jd [0] [(4,Bo (JdR (kn1:Int)))] (Jc (Ja (Jk ?_)))
 refine Jl [0] [Bo (JdR (kn1:Int))] (Jw (Jt.le_refl _) ?_)
 have hf_:(JdR c) = (JdR (kn1:Int)):=by
  rw [hkn1]
 · (try rw [hf_]);(simp only [JM];done)
theorem Jo3 (G:Jt) (s:List UInt8) (hw_s:(s).length ≤ 140737488351232) (b_as:Nat) (hz_as:∀ j v,(Jh3:List Value)[j]? = some v → G b_as (0 + j) = some v) :Con Tryz.prog 167 #[Sr s,Pt b_as 0] G [] (fun u G' L'=>u = Sr (JeT s)):=by
 refine JL Tryz.func167 16 [(0,Sr s),(1,Pt b_as 0)] rfl (fun w0 G0=>?_)
 refine Jg [0] [(0,Sr s),(1,Pt b_as 0)] (Je (Jy ?_))
 refine Ja8 (σ:=List UInt8) (fun q_=>(q_.length ≤ 140737488351232) ∧ (JeT s = JeT q_)) (fun q_=>[(0,Sr q_),(1,Pt b_as 0)]) (fun q_=>G) (fun q_=>[]) (fun q_=>q_.length) s ⟨hw_s,rfl⟩ (fun q_ hs=>?_)
 revert hs;revert q_;intro t hs
 obtain ⟨ht,hn⟩:=hs
 refine JaJ (fr':=[(0,Sr t),(1,Pt b_as 0)]) (L':=[]) rfl rfl ?_
 refine Je ?_
 refine Jg [0,0,0] [(0,Sr t),(1,Pt b_as 0),(7,Bo (decide (((t).length:Int) > 0)))] ?_
 refine Jo (decide (((t).length:Int) > 0)) (fun h1=>?_) (fun h1=>?_)
 try simp only [BB] at h1
 refine Jn (Ja (Jy (Je (Je (Jb ?_)))))
 refine Jd [0,0] [(0,Sr t),(1,Pt b_as 0),(8,Pt b_as 0),(9,Sr t)] ?_
 obtain ⟨y1,hy1⟩:=Jb1 (l:=t) (k:=0) (by omega)
 have hb_y1:=y1.toNat_lt
 refine JfG (ik:=.i64) 10 0 y1 hy1 ?_
 refine Ji 11 (Bo (JdR (y1.toNat:Int))) (Jjs G b_as hz_as (y1.toNat:Int) (by omega)) ?_
 refine Jd [0] [(0,Sr t),(1,Pt b_as 0),(12,Bo (!(JdR (y1.toNat:Int))))] (Jc (Ja ?_))
 refine Jo (!(JdR (y1.toNat:Int))) (fun h2=>?_) (fun h2=>?_)
 try simp only [BB] at h2
 refine JaT (J2 ?_)
 refine Jex rfl ?_
 refine Jaf (JW (Ja ?_))
 refine Jg [0,0] [(4,Sr t)] (Jk ?_)
 refine Jl [0] [Sr t] (Jw (Jt.le_refl _) ?_)
 have hf_:(JeT s) = t:=by
  rw [hn];exact JoY hy1 (by simp_all [Jfy])
 · (try rw [hf_]);(simp only [JM];done)
 try simp only [BB] at h2
 refine Jn (Ja (Jb ?_))
 refine Jd [0] [(0,Sr t),(1,Pt b_as 0),(13,Sr t)] ?_
 refine Jox (l:=t) 14 (some (I 1)) none 1 0 (.inr ⟨_,rfl⟩) (.inl ⟨rfl,rfl⟩) (by omega) ?_
 refine Jd [0] [(0,Sr (t.drop 1)),(1,Pt b_as 0)] (Jc (JK ?_))
 exact Jba (t.drop 1) ⟨(by (try dsimp only);(try simp only [List.length_drop,List.length_take]);omega),(by (try dsimp only);rw [hn];exact Jm9 hy1 (by simp_all [Jfy]))⟩ (by (try dsimp only);(try simp only [List.length_drop,List.length_take]);omega)
 try simp only [BB] at h1
 refine JaT (J2 (Jaf (JW (Ja ?_))))
 refine Jg [0,0] [(4,Sr t)] (Jk ?_)
 refine Jl [0] [Sr t] (Jw (Jt.le_refl _) ?_)
 have hf_:(JeT s) = t:=by
  rw [hn];exact Jo0 (by omega)
 · (try rw [hf_]);(simp only [JM];done)
theorem Jo4 (G:Jt) (s:List UInt8) (hw_s:(s).length ≤ 140737488351232) (b_as:Nat) (hz_as:∀ j v,(Jh3:List Value)[j]? = some v → G b_as (0 + j) = some v) :Con Tryz.prog 168 #[Sr s,Pt b_as 0] G [] (fun u G' L'=>u = Sr (Jd0 s)):=by
 refine JL Tryz.func168 22 [(0,Sr s),(1,Pt b_as 0)] rfl (fun w0 G0=>?_)
 refine Jg [0] [(0,Sr s),(1,Pt b_as 0)] (Je (Jy ?_))
 refine Ja8 (σ:=List UInt8) (fun q_=>(q_.length ≤ 140737488351232) ∧ (Jd0 s = Jd0 q_)) (fun q_=>[(0,Sr q_),(1,Pt b_as 0)]) (fun q_=>G) (fun q_=>[]) (fun q_=>q_.length) s ⟨hw_s,rfl⟩ (fun q_ hs=>?_)
 revert hs;revert q_;intro t hs
 obtain ⟨ht,hn⟩:=hs
 refine JaJ (fr':=[(0,Sr t),(1,Pt b_as 0)]) (L':=[]) rfl rfl ?_
 refine Je ?_
 refine Jg [0,0,0] [(0,Sr t),(1,Pt b_as 0),(7,Bo (decide (((t).length:Int) > 0)))] ?_
 refine Jo (decide (((t).length:Int) > 0)) (fun h1=>?_) (fun h1=>?_)
 try simp only [BB] at h1
 refine Jn (Ja (Jy (Je (Je (Jb ?_)))))
 refine Jd [0,0,0,0,0] [(0,Sr t),(1,Pt b_as 0),(8,Pt b_as 0),(9,Sr t),(12,I (IntKind.i64.wrap (((t).length:Int) - 1)))] ?_
 have e1:IntKind.i64.wrap (((t).length:Int) - 1) = ((t.length - 1:Nat):Int):=(IntWalk.i64_in _ (by omega)).trans (show ((t).length:Int) - 1 = ((t.length - 1:Nat):Int) by omega)
 refine J1 (fr':=[(0,Sr t),(1,Pt b_as 0),(8,Pt b_as 0),(9,Sr t),(12,I ((t.length - 1:Nat):Int))]) (L':=[]) (by simp only [e1]) (by rfl) ?_
 clear e1
 obtain ⟨y1,hy1⟩:=Jb1 (l:=t) (k:=t.length - 1) (by omega)
 have hb_y1:=y1.toNat_lt
 refine JfG (ik:=.i64) 13 (t.length - 1) y1 hy1 ?_
 refine Ji 14 (Bo (JdR (y1.toNat:Int))) (Jjs G b_as hz_as (y1.toNat:Int) (by omega)) ?_
 refine Jd [0] [(0,Sr t),(1,Pt b_as 0),(15,Bo (!(JdR (y1.toNat:Int))))] (Jc (Ja ?_))
 refine Jo (!(JdR (y1.toNat:Int))) (fun h2=>?_) (fun h2=>?_)
 try simp only [BB] at h2
 refine JaT (J2 ?_)
 refine Jex rfl ?_
 refine Jaf (JW (Ja ?_))
 refine Jg [0,0] [(4,Sr t)] (Jk ?_)
 refine Jl [0] [Sr t] (Jw (Jt.le_refl _) ?_)
 have hf_:(Jd0 s) = t:=by
  rw [hn];exact JoZ hy1 (by simp_all [Jfy])
 · (try rw [hf_]);(simp only [JM];done)
 try simp only [BB] at h2
 refine Jn (Ja (Jb ?_))
 refine Jd [0,0,0,0] [(0,Sr t),(1,Pt b_as 0),(16,Sr t),(19,I (IntKind.i64.wrap (((t).length:Int) - 1)))] ?_
 have e2:IntKind.i64.wrap (((t).length:Int) - 1) = ((t.length - 1:Nat):Int):=(IntWalk.i64_in _ (by omega)).trans (show ((t).length:Int) - 1 = ((t.length - 1:Nat):Int) by omega)
 refine J1 (fr':=[(0,Sr t),(1,Pt b_as 0),(16,Sr t),(19,I ((t.length - 1:Nat):Int))]) (L':=[]) (by simp only [e2]) (by rfl) ?_
 clear e2
 refine JhW (l:=t) 20 none (some (I ((t.length - 1:Nat):Int))) 0 (t.length - 1) (.inl ⟨rfl,rfl⟩) (.inr ⟨_,rfl⟩) (Nat.zero_le _) (by omega) ?_
 refine Jd [0] [(0,Sr (t.take (t.length - 1))),(1,Pt b_as 0)] (Jc (JK ?_))
 exact Jba (t.take (t.length - 1)) ⟨(by (try dsimp only);(try simp only [List.length_drop,List.length_take]);omega),(by (try dsimp only);rw [hn];exact Jna hy1 (by simp_all [Jfy]))⟩ (by (try dsimp only);(try simp only [List.length_drop,List.length_take]);omega)
 try simp only [BB] at h1
 refine JaT (J2 (Jaf (JW (Ja ?_))))
 refine Jg [0,0] [(4,Sr t)] (Jk ?_)
 refine Jl [0] [Sr t] (Jw (Jt.le_refl _) ?_)
 have hf_:(Jd0 s) = t:=by
  rw [hn];exact Jo1 (by omega)
 · (try rw [hf_]);(simp only [JM];done)
theorem Jo5 (G:Jt) (s:List UInt8) (hw_s:(s).length ≤ 140737488351232) :Con Tryz.prog 137 #[Sr s,Sr ([48,49])] G [] (fun u G' L'=>u = Sr (Jgp s)):=by
 refine JL Tryz.func137 43 [(0,Sr s),(1,Sr ([48,49]))] rfl (fun w0 G0=>?_)
 refine Jg [0] [(0,Sr s),(1,Sr ([48,49]))] (Je (Je (Jb ?_)))
 refine Jd [0,0,0] [(0,Sr s),(1,Sr ([48,49])),(9,Bo ((B s).toList == (B ([])).toList))] ?_
 refine J1 (fr':=[(0,Sr s),(1,Sr ([48,49])),(9,Bo (s == []))]) (L':=[]) (by simp only [JcB]) (by rfl) ?_
 refine Jay (s == []) (fun bb=>[(0,Sr s),(1,Sr ([48,49])),(9,Bo bb)]) [1,1,0] [0,0,0] (fun bb=>[(0,Sr s),(1,Sr ([48,49])),(12,Bo (bb || false))]) ?_
 refine Jc (Ja ?_)
 refine Jo ((s == []) || false) (fun h1=>?_) (fun h1=>?_)
 try simp only [BB] at h1
 refine Jg [0,0] [(4,Sr s)] (Jk (Jh ?_))
 refine Jl [0] [Sr s] (Jw (Jt.le_refl _) ?_)
 have hf_:(Jgp s) = s:=by
  (simp_all;rfl)
 · (try rw [hf_]);(simp only [JM];done)
 try simp only [BB] at h1
 refine Jn (Ja (Je ?_))
 refine Jg [0,0,0,0,1,1,1,0] [(0,Sr s),(1,Sr ([48,49])),(21,Bo false)] ?_
 refine Jbk ?_
 refine Jn (Ja (Je (Je (Jb ?_))))
 refine Jd [0] [(0,Sr s),(1,Sr ([48,49])),(30,Sr ([48,49]))] ?_
 refine Ji 31 (.tuple #[.agg Jh3.toArray,Bo true]) (Jnb G) ?_
 refine Jd [0,0,0] [(0,Sr s),(1,Sr ([48,49])),(32,.agg Jh3.toArray),(33,Bo true)] ?_
 refine Ju 5 #[Bo false,Bo false,Bo false,Bo false,Bo false,Bo false,Bo false,Bo false,Bo false,Bo false,Bo false,Bo false,Bo false,Bo false,Bo false,Bo false,Bo false,Bo false,Bo false,Bo false,Bo false,Bo false,Bo false,Bo false,Bo false,Bo false,Bo false,Bo false,Bo false,Bo false,Bo false,Bo false,Bo false,Bo false,Bo false,Bo false,Bo false,Bo false,Bo false,Bo false,Bo false,Bo false,Bo false,Bo false,Bo false,Bo false,Bo false,Bo false,Bo false,Bo false,Bo false,Bo false,Bo false,Bo false,Bo false,Bo false,Bo false,Bo false,Bo false,Bo false,Bo false,Bo false,Bo false,Bo false,Bo false,Bo false,Bo false,Bo false,Bo false,Bo false,Bo false,Bo false,Bo false,Bo false,Bo false,Bo false,Bo false,Bo false,Bo false,Bo false,Bo false,Bo false,Bo false,Bo false,Bo false,Bo false,Bo false,Bo false,Bo false,Bo false,Bo false,Bo false,Bo false,Bo false,Bo false,Bo false,Bo false,Bo false,Bo false,Bo false,Bo false,Bo false,Bo false,Bo false,Bo false,Bo false,Bo false,Bo false,Bo false,Bo false,Bo false,Bo false,Bo false,Bo false,Bo false,Bo false,Bo false,Bo false,Bo false,Bo false,Bo false,Bo false,Bo false,Bo false,Bo false,Bo false,Bo false,Bo false,Bo false,Bo false,Bo false,Bo false,Bo false,Bo false,Bo false,Bo false,Bo false,Bo false,Bo false,Bo false,Bo false,Bo false,Bo false,Bo false,Bo false,Bo false,Bo false,Bo false,Bo false,Bo false,Bo false,Bo false,Bo false,Bo false,Bo false,Bo false,Bo false,Bo false,Bo false,Bo false,Bo false,Bo false,Bo false,Bo false,Bo false,Bo false,Bo false,Bo false,Bo false,Bo false,Bo false,Bo false,Bo false,Bo false,Bo false,Bo false,Bo false,Bo false,Bo false,Bo false,Bo false,Bo false,Bo false,Bo false,Bo false,Bo false,Bo false,Bo false,Bo false,Bo false,Bo false,Bo false,Bo false,Bo false,Bo false,Bo false,Bo false,Bo false,Bo false,Bo false,Bo false,Bo false,Bo false,Bo false,Bo false,Bo false,Bo false,Bo false,Bo false,Bo false,Bo false,Bo false,Bo false,Bo false,Bo false,Bo false,Bo false,Bo false,Bo false,Bo false,Bo false,Bo false,Bo false,Bo false,Bo false,Bo false,Bo false,Bo false,Bo false,Bo false,Bo false,Bo false,Bo false,Bo false,Bo false,Bo false,Bo false,Bo false,Bo false,Bo false,Bo false,Bo false,Bo false,Bo false,Bo false,Bo false,Bo false,Bo false,Bo false,Bo false,Bo false,Bo false,Bo false,Bo false,Bo false,Bo false] 259 (fun b1=>?_)
 refine Jaa [3,0] [(0,Sr s),(1,Sr ([48,49])),(5,Pt b1 0),(6,Bo true)] [[Sg b1 0 Jh3]] (Jc (Ja ?_))
 refine Jg [0] [(0,Sr s),(1,Sr ([48,49])),(5,Pt b1 0),(34,Bo true)] ?_
 refine JT ?_
 refine Je (Jb ?_)
 refine Jd [0] [(5,Pt b1 0),(35,Sr s)] ?_
 refine JbH (b:=b1) (o:=0) (cs:=Jh3) 0 (fun G1 hl1 hz1=>?_)
 refine Ji 36 (Sr (Jd0 s)) (Jo4 G1 s ‹_› b1 hz1) ?_
 refine Ji 37 (Sr (JeT (Jd0 s))) (Jo3 G1 (Jd0 s) (Nat.le_trans (Jo2 s) hw_s) b1 hz1) ?_
 refine Jd [0] [(4,Sr (JeT (Jd0 s)))] (Jc (Ja (Jk (Jh ?_))))
 refine Jl [0] [Sr (JeT (Jd0 s))] (Jw hl1 ?_)
 have hf_:(Jgp s) = JeT (Jd0 s):=by
  rfl
 · (try rw [hf_]);(simp only [JM];done)
theorem Jnc (G:Jt) (s:List UInt8) (q:List UInt8) :Con Tryz.prog 195 #[Sr s,Sr q] G [] (fun u G' L'=>u = Bo (decide (q <+: s))):=by
 refine JL Tryz.func195 18 [(0,Sr s),(1,Sr q)] rfl (fun w0 G0=>?_)
 refine Jg [0] [(0,Sr s),(1,Sr q)] (Je (Jb ?_))
 refine Jd [0,0,0,0,0,0] [(0,Sr s),(1,Sr q),(10,Bo (decide (((s).length:Int) ≥ ((q).length:Int))))] ?_
 refine Jb8 (fun bb=>[(0,Sr s),(1,Sr q),(10,Bo bb)]) (decide (((s).length:Int) ≥ ((q).length:Int))) (fun h1=>?_) (fun h1=>?_)
 try simp only [BB] at h1
 refine Jd [0,0,0] [(1,Sr q),(10,Bo true),(11,Sr s),(13,I ((q).length:Int))] ?_
 refine JhW (l:=s) 14 none (some (I ((q).length:Int))) 0 ((q).length) (.inl ⟨rfl,rfl⟩) (.inr ⟨_,rfl⟩) (Nat.zero_le _) (by omega) ?_
 refine Jd [0,0,0,0] [(4,Bo ((B (s.take ((q).length))).toList == (B q).toList))] ?_
 refine J1 (fr':=[(4,Bo (s.take ((q).length) == q))]) (L':=[]) (by simp only [JcB]) (by rfl) ?_
 refine Jc (Ja (Jk ?_))
 refine Jl [0] [Bo (s.take ((q).length) == q)] (Jw (Jt.le_refl _) ?_)
 have hf_:(decide (q <+: s)) = (s.take ((q).length) == q):=by
  (rw [Bool.eq_iff_iff];simp only [decide_eq_true_eq,beq_iff_eq,List.prefix_iff_eq_take];exact eq_comm)
 · (try rw [hf_]);(simp only [JM];done)
 try simp only [BB] at h1
 refine Jd [1,1,1,1,1,1,0,0] [(4,Bo false)] (Jc (Ja (Jk ?_)))
 refine Jl [0] [Bo false] (Jw (Jt.le_refl _) ?_)
 have hf_:(decide (q <+: s)) = false:=by
  (rw [decide_eq_false];intro hp_;have q_:=hp_.length_le;omega)
 · (try rw [hf_]);(simp only [JM];done)
theorem JjW (G:Jt) (s:List UInt8) (q:List UInt8) :Con Tryz.prog 176 #[Sr s,Sr q] G [] (fun u G' L'=>u = Bo (decide (q <+: s))):=by
 refine JL Tryz.func176 8 [(0,Sr s),(1,Sr q)] rfl (fun w0 G0=>?_)
 refine Jg [0] [(0,Sr s),(1,Sr q)] (Je (Jb ?_))
 refine Jd [0,0] [(5,Sr s),(6,Sr q)] ?_
 refine Ji 7 (Bo (decide (q <+: s))) (Jnc G s q) ?_
 refine Jd [0] [(4,Bo (decide (q <+: s)))] (Jc (Ja (Jk ?_)))
 refine Jl [0] [Bo (decide (q <+: s))] (Jw (Jt.le_refl _) ?_)
 have hf_:(decide (q <+: s)) = (decide (q <+: s)):=by
  rfl
 · (try rw [hf_]);(simp only [JM];done)
end Go.Proofs.YtnnlpbjdignhaaaGreatDoor
