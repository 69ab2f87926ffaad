import Derived.Test.YtnnlpbjdignhaaaGreatDoorTcMap
set_option linter.unusedVariables false
set_option linter.unusedSimpArgs false
namespace Go.Tx
open Go.RowKit Go.Proofs Go.Shelf
section
variable {C:Cx} {Q:Exit→Act→World→Prop} {fr:List (Nat×Value)} {G:Jt} {L:List (List Ks)} {ops:Array Oper} {rest:List Oper} {o:Oper}
theorem Jem {x y:Code} (h:TC C y Q fr G L):TC C (.cond (.const (.bool false)) x y) Q fr G L :=
 fun a w ha hw=>wp_cond_false (by simp [Act.eval]) (h a w ha hw)
theorem Jiw (d t e n sz:Nat) {z:Value} {lo co:Operand} {bytes:Nat} (h63:n≤9223372036854775807) (hby:n*bytes≤281474976710656)
  (hi:(C.P.info? e).map (fun i=>(i.zero,i.size,i.bytes))=some (some z,sz,bytes))
  (h:∀ b F,F.length=n*sz→KG C ops Q rest ((d,Sl (At b 0) n n)::fr) G ([Sg b 0 F]::L))
  (hb:base C.n ops fr o d=true:=by as_aux_lemma=>kernel_rfl)
  (hop:o.op=.makeSlice t lo co:=by rfl) (ht:C.P.underlying t=some (.slice e):=by as_aux_lemma=>kernel_rfl)
  (hlo:WR fr lo=I (n:Int):=by as_aux_lemma=>kernel_rfl) (hco:WR fr co=I (n:Int):=by as_aux_lemma=>kernel_rfl):KG C ops Q (o::rest) fr G L:=by
 refine Qn d hb (fun w hw=>?_)
 obtain ⟨inf,hinf,hz,hsz,hbs⟩:=info_parts hi
 have hbn:(inf.bytes:Int)*(n:Int)≤281474976710656:=by
  have h2:(inf.bytes:Int)*n=((n*bytes:Nat):Int):=by rw [Int.natCast_mul,Int.mul_comm,hbs]
  omega
 have hm:=run_make (P:=C.P) w t e inf z ht hinf hz .i64 .i64 n n (by omega) (Int.le_refl _) hbn (by omega)
 simp only [Int.toNat_natCast,hsz] at hm
 refine ⟨_,_,G,_,?_,hw.alloc (madeCells z.cells (n*sz)) e,h w.heap.size _ (by simp [size_madeCells])⟩
 unfold execOp
 simp only [hop,hlo,hco,Sem.run_bind,hm,Result.andThen_ok,Sem.run_pure]
end
theorem JdE (k:Nat) (cs:List Value):(List.replicate k cs).flatten.length=k*cs.length:=by simp
theorem Jl2 {k m:Nat} {cs:List Value} (h:m≤k):(List.replicate k cs).flatten.take (m*cs.length)=(List.replicate m cs).flatten:=by
 obtain ⟨j,rfl⟩:=Nat.exists_eq_add_of_le h
 rw [← List.replicate_append_replicate,List.flatten_append,List.take_append_of_le_length (by rw [JdE];exact Nat.le_refl _),List.take_of_length_le (by rw [JdE];exact Nat.le_refl _)]
theorem V2 (a b:Nat):Nat.min a b≤a∧Nat.min a b≤b∧(1≤a→1≤b→1≤Nat.min a b):=by
 show min a b≤a∧min a b≤b∧(1≤a→1≤b→1≤min a b)
 omega
structure Jce (cs:List Value) (n k:Nat) (F:List Value):Prop where
 le:k≤n
 pos:n=0∨1≤k
 len:F.length=n*cs.length
 eq:F.take (k*cs.length)=(List.replicate k cs).flatten
theorem Jce.x {cs F:List Value} {n k m:Nat} (h:Jce cs n k F) (hm:m≤k):F.take (m*cs.length)=(List.replicate m cs).flatten:=by
 rw [← Jl2 hm,← h.eq,List.take_take,Nat.min_eq_left (Nat.mul_le_mul_right _ hm)]
theorem Jce.xlen {cs F:List Value} {n k m:Nat} (h:Jce cs n k F) (hm:m≤k):(F.take (m*cs.length)).length=m*cs.length:=by rw [h.x hm,JdE]
theorem Jce.one {cs F:List Value} {n k m:Nat} (h:Jce cs n k F) (hm:m≤k) (h1:∀ u∈cs,u.oneCell'=true):∀ u∈F.take (m*cs.length),u.oneCell'=true:=by
 rw [h.x hm]
 intro u hu
 obtain ⟨l,hl,hu⟩:=List.mem_flatten.1 hu
 rw [(List.mem_replicate.1 hl).2] at hu
 exact h1 u hu
theorem Jdh {F X:List Value} {p:Nat} (hp:p≤F.length):(QH F p X).take (p+X.length)=F.take p++X:=by
 unfold QH
 rw [← List.append_assoc,List.take_append_of_le_length (by simp;omega),List.take_of_length_le (by simp;omega)]
theorem Jce.next {cs F:List Value} {n k m:Nat} (h:Jce cs n k F) (hm:m≤k) (hmn:k+m≤n):Jce cs n (k+m) (QH F (k*cs.length) (F.take (m*cs.length))):=by
 have hkl:k*cs.length+m*cs.length≤n*cs.length:=by rw [← Nat.add_mul];exact Nat.mul_le_mul_right _ hmn
 have hx:=h.xlen hm
 refine ⟨hmn,?_,?_,?_⟩
 ·
  rcases h.pos with q | q
  ·
   exact .inl q
  ·
   exact .inr (by omega)
 ·
  rw [Zt (by rw [hx,h.len];exact hkl)];exact h.len
 ·
  have:=Jdh (F:=F) (X:=F.take (m*cs.length)) (p:=k*cs.length) (by rw [h.len];omega)
  rw [hx,← Nat.add_mul] at this
  rw [this,h.eq,h.x hm,← List.flatten_append,List.replicate_append_replicate]
def Jgk (cs:List Value) (n:Nat):List Value:=(List.replicate (Nat.min 1 n) cs).flatten
theorem Jen (cs:List Value) (n:Nat):(Jgk cs n).length=Nat.min 1 n*cs.length:=JdE _ _
theorem Jl3 {cs:List Value} {n:Nat} {u:Value} (h:u∈Jgk cs n):u∈cs:=by
 obtain ⟨l,hl,hu⟩:=List.mem_flatten.1 h
 rw [(List.mem_replicate.1 hl).2] at hu;exact hu
theorem Jl4 {cs:List Value} {n j:Nat} {v:Value} (h:(Jgk cs n)[j]? = some v):cs[j]? = some v:=by
 unfold Jgk at h
 have h2:=(Nat.min_def (m:=n) (n:=1))
 by_cases e:1≤n
 ·
  rw [show Nat.min 1 n=1 from Nat.min_eq_left e] at h
  simpa using h
 ·
  rw [show Nat.min 1 n=0 from by show min 1 n=0;omega] at h
  simp at h
theorem Jce.start {cs F:List Value} {n:Nat} (hF:F.length=n*cs.length):Jce cs n (Nat.min 1 n) (QH F 0 (Jgk cs n)):=by
 have hl:=Jen cs n
 have hle:Nat.min 1 n≤n:=Nat.min_le_right 1 n
 have hk:Nat.min 1 n*cs.length≤n*cs.length:=Nat.mul_le_mul_right _ hle
 refine ⟨hle,?_,?_,?_⟩
 ·
  by_cases e:n=0
  ·
   exact .inl e
  ·
   exact .inr (by show 1≤min 1 n;omega)
 ·
  rw [Zt (by rw [hl,hF];omega)];exact hF
 ·
  have:=Jdh (F:=F) (X:=Jgk cs n) (p:=0) (Nat.zero_le _)
  rw [hl] at this
  simp only [Nat.zero_add,List.take_zero,List.nil_append] at this
  rw [this];rfl
theorem Jce.row {α:Type} {E:Yl α} {G:Jt} {cs F:List Value} {n k b:Nat} {x:α} (h:Jce cs n k F) (hk:n≤k) (hR:E.R G cs x) (h63:n≤9223372036854775807):J9 E G (At b 0) n (List.replicate n x) [Sg b 0 F]:=by
 have hkn:k=n:=Nat.le_antisymm h.le hk
 subst hkn
 have hF:F=(List.replicate k cs).flatten:=by rw [← h.eq,List.take_of_length_le (by rw [h.len];exact Nat.le_refl _)]
 have hsz:=E.len hR
 refine ⟨⟨List.replicate k cs,by simp,fun i y hy=>?_,?_⟩⟩
 ·
  have hi:=(List.getElem?_eq_some_iff.1 hy).1
  simp only [List.length_replicate] at hi
  rw [List.getElem?_replicate,if_pos hi] at hy
  cases hy
  exact ⟨cs,by rw [List.getElem?_replicate,if_pos hi],hR⟩
 ·
  rw [List.length_replicate,← hF]
  exact Row.lit (by rw [h.len,hsz]) h63
theorem JmJ {G:Jt} {L:List (List Ks)} {b o n:Nat} {cs:List Value} (h:∀ j v,cs[j]? = some v→G b (o+j)=some v):Jlb G L b o (Jgk cs n):=.inl fun j v hv=>h j v (Jl4 hv)
theorem JmK {G:Jt} {L:List (List Ks)} {b:Nat} {F:List Value} {m:Nat} (k:Nat) (hL:L[k]? = some [Sg b 0 F]):Jlb G L b 0 (F.take m):=.inr ⟨k,0,F,0,hL,rfl,fun j v hv=>by
 rw [Nat.zero_add]
 have hj:=(List.getElem?_eq_some_iff.1 hv).1
 simp only [List.length_take] at hj
 rw [List.getElem?_take] at hv
 split at hv
 ·
  exact hv
 ·
  cases hv⟩
end Go.Tx
