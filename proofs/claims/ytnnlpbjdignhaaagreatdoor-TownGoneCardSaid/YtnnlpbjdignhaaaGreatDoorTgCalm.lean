import Derived.Test.YtnnlpbjdignhaaaGreatDoorTgTickD
import Derived.Test.YtnnlpbjdignhaaaGreatDoorTgLook
namespace Go.Proofs.YtnnlpbjdignhaaaGreatDoor
open Go.Tx
set_option linter.unusedVariables false
set_option linter.unusedSimpArgs false
open Go.Tx Go.Proofs
def QH (c:Kw) (a b:Int):List JS×Int:=if ¬ J8 c=0 then ([],J8 c) else Wp c.heads a b
def Jgl (w:List (List UInt8)) (j:Nat):List UInt8×Bool×Int:=if j=0 then ([],false,0) else (w[j-1]?.getD [],true,0)
theorem JlO {w:List (List UInt8)} {j:Nat} (h:j≤w.length) (v:List (List UInt8)):Jgl (w++v) j=Jgl w j:=by
 unfold Jgl
 split
 ·
  rfl
 ·
  rw [List.getElem?_append_left (by omega)]
theorem Jiw {α:Type} {p:α→Bool} {l:List α} {m:Nat} {x:α} (h:l[m]? = some x) (hp:p x=true):0≤K9 p l∧K9 p l≤m:=by
 obtain ⟨hl,hx⟩:=List.getElem?_eq_some_iff.1 h
 unfold K9
 cases e:l.findIdx? p with
 | none =>
  have:=List.findIdx?_eq_none_iff.1 e x (by rw [← hx];exact List.getElem_mem hl)
  rw [hp] at this;cases this
 | some i =>
  obtain ⟨h1,h2,h3⟩:=List.findIdx?_eq_some_iff_getElem.1 e
  simp only
  refine ⟨by omega,?_⟩
  apply Decidable.byContradiction
  intro hc
  have:=h3 m (by omega)
  rw [hx,hp] at this;simp at this
theorem Jep {c:Kw} (h:Q8 c) {x:JS} (hx:x∈c.heads):0≤x.epoch∧c.heads[x.epoch.toNat]? = some x:=by
 obtain ⟨k,hk⟩:=List.getElem?_of_mem hx
 have he:=h.chain.epoch k x hk
 rw [h.first] at he
 have:x.epoch.toNat=k:=by omega
 exact ⟨by omega,by rw [this];exact hk⟩
theorem Jgm {l:List JS} {a b:Int} {x:JS} (h:x∈cut l a b):x∈l:=by
 unfold cut at h;exact List.mem_of_mem_take (List.mem_of_mem_drop h)
set_option maxHeartbeats 1600000 in
theorem Jeq (G:Jt) (vs_c:List Value) (c:Kw) (h_c:VJ.R G vs_c c) (a:Int) (hw_a:rI a) (b:Int) (hw_b:rI b) :QI Tryz.prog 150 #[.agg vs_c.toArray,I a,I b] G [] (fun u G' L'=>∃ (a1:Option Addr) (c2:Nat),u=.tuple #[Sl a1 (((QH c a b).1).length) c2,I ((QH c a b).2)]∧(RS KE G' a1 c2 ((QH c a b).1))∧L'=[]):=by
 obtain ⟨a1,c1,a2,c2,a3,c3,rfl,w1,hs1,w2,w3,w4,hs2,hs3⟩:=h_c
 refine JK Tryz.func150 21 [(0,(KX c a1 c1 a2 c2 a3 c3)),(1,I a),(2,I b)] rfl (fun w0 G0=>?_)
 refine Je (Jb (Ju 3 #[I c.queue.most,Sl a1 c.queue.wait.length c1,I c.batch,I c.every,I c.now,Sl a2 c.heads.length c2,Sl a3 c.books.length c3] 34 (fun b1=>Jd [0,0] [(1,I a),(2,I b),(3,Pt b1 0)] (Jc (Ja (Je (Je (Jb (Jd [2] [(1,I a),(2,I b),(3,Pt b1 0),(9,(KX c a1 c1 a2 c2 a3 c3))] (Ji 10 (I (J8 c)) (YX G (Ko c a1 c1 a2 c2 a3 c3) c (⟨a1,c1,a2,c2,a3,c3,rfl,w1,hs1,w2,w3,w4,hs2,hs3⟩)) (Jd [0] [(1,I a),(2,I b),(3,Pt b1 0),(8,I (J8 c))] (Jc (Ja (Jg [0,0] [(1,I a),(2,I b),(3,Pt b1 0),(8,I (J8 c)),(12,Bo (!decide (J8 c=0)))] (Jo (!decide (J8 c=0)) (fun h1=>?_) (fun h1=>?_))))))))))))))))
 try simp only [BB] at h1
 refine Jg [0,0,0] [(6,Sl none 0 0),(7,I (J8 c))] (Jk (Jh ?_))
 have hf1:QH c a b=([],J8 c):=by
  unfold QH;(rw [if_pos ‹_›];done)
 refine Jl [0,0] [Sl none 0 0,I (J8 c)] (JY [] (.cons _ .slnil) (Jt.le_refl _) ?_)
 rw [hf1]
 try dsimp only
 exact ⟨none,0,rfl,(RS.nil' KE G),rfl⟩
 try simp only [BB] at h1
 refine Jn (Ja (Je (Jb (Jd [0,2,0,0] [(15,Sl a2 c.heads.length c2),(16,I a),(17,I b)] (JQ 18 (JeM G a2 c2 c.heads hs2 a hw_a b hw_b) (fun v G1 L1 hl1 hp=>?_))))))
 obtain ⟨a4,c4,rfl,hs4,rfl⟩:=hp
 refine Jd [0,0,0,0] [(6,Sl a4 (((Wp c.heads a b).1).length) c4),(7,I ((Wp c.heads a b).2))] (Jc (Ja (Jk ?_)))
 have hf2:QH c a b=((Wp c.heads a b).1,(Wp c.heads a b).2):=by
  unfold QH;(rw [if_neg (by omega)];done)
 refine Jl [0,0] [Sl a4 (((Wp c.heads a b).1).length) c4,I ((Wp c.heads a b).2)] (JY [] (.cons _ .slnil) hl1 ?_)
 rw [hf2]
 try dsimp only
 exact ⟨a4,c4,rfl,hs4,rfl⟩
end Go.Proofs.YtnnlpbjdignhaaaGreatDoor
