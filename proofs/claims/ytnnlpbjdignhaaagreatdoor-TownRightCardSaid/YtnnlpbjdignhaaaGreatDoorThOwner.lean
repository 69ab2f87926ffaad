import Derived.Test.YtnnlpbjdignhaaaGreatDoorThHeadN
namespace Go.Proofs.YtnnlpbjdignhaaaGreatDoor
open Go.Tx
set_option linter.unusedVariables false
set_option linter.unusedSimpArgs false
def JeJ:JaX:=⟨[],0,JcV,[],0⟩
def Jcc (s:List UInt8):Bool:=decide (s.length > 20)
def JH (o:JaX):Int:=if JaC o.name = false then 3 else if JC o.head ≠ 0 then JC o.head else if 30 < (o.wanted.length:Int) ∨ (o.wanted.any fun x0=>Jcc x0) = true then 2 else if o.had < 0 ∨ (o.wanted.length:Int) < o.had then 4 else 0
def JD (name:List UInt8) (key:Int) (h:JS):JaX × Int:=if JH ⟨name,key,h,[],0⟩ ≠ 0 then (JeJ,JH ⟨name,key,h,[],0⟩) else (⟨name,key,h,[],0⟩,0)
def JdG (o:JaX) (v:List UInt8):Int:=if JH o ≠ 0 then JH o else if Jcc v = true then 2 else if (o.wanted.length:Int) = 30 then 7 else 0
def JJ (o:JaX) (v:List UInt8):JaX × Jc5 × Int:=if JdG o v ≠ 0 then (JeJ,Jl1,JdG o v) else (⟨o.name,o.key,o.head,o.wanted ++ [v],o.had⟩,(JcE o.key o.name v o.wanted.length).1,0)
theorem JaZ {o:JaX}:JH o = 0 ↔ JaC o.name = true ∧ JC o.head = 0 ∧ o.wanted.length ≤ 30 ∧ (∀ s ∈ o.wanted,s.length ≤ 20) ∧ 0 ≤ o.had ∧ o.had ≤ o.wanted.length:=by
 unfold JH
 have e:(o.wanted.any fun x0=>Jcc x0) = true ↔ ¬ ∀ s ∈ o.wanted,s.length ≤ 20:=by
  rw [List.any_eq_true]
  unfold Jcc
  constructor
  ·
   rintro ⟨x,hx,h⟩ hc
   have:=hc x hx
   simp at h;omega
  ·
   intro h
   apply Classical.byContradiction
   intro hc
   refine h fun s hs=>?_
   apply Classical.byContradiction
   intro h2
   exact hc ⟨s,hs,by simp;omega⟩
 cases hn:JaC o.name with
 | false=>simp
 | true =>
  rw [if_neg (by simp)]
  by_cases h1:JC o.head = 0
  ·
   rw [if_neg (by omega)]
   by_cases h2:30 < (o.wanted.length:Int) ∨ (o.wanted.any fun x0=>Jcc x0) = true
   ·
    rw [if_pos h2]
    constructor
    ·
     intro h;cases h
    ·
     rintro ⟨_,_,h3,h4,_⟩
     rcases h2 with h2 | h2
     ·
      omega
     ·
      exact absurd h4 (e.1 h2)
   ·
    rw [if_neg h2]
    have h3:o.wanted.length ≤ 30:=Nat.le_of_not_lt fun h=>h2 (.inl (by omega))
    have h4:∀ s ∈ o.wanted,s.length ≤ 20:=Decidable.not_not.1 fun h=>h2 (.inr (e.2 h))
    split
    ·
     constructor
     ·
      intro h;cases h
     ·
      rintro ⟨_,_,_,_,_,_⟩;omega
    ·
     exact ⟨fun _=>⟨rfl,h1,h3,h4,by omega,by omega⟩,fun _=>rfl⟩
  ·
   rw [if_pos h1]
   exact ⟨fun h=>absurd h h1,fun h=>absurd h.2.1 h1⟩
theorem Jlm {o:JaX} {v:List UInt8} (h:(JJ o v).2.2 = 0):JH o = 0 ∧ v.length ≤ 20 ∧ o.wanted.length < 30 ∧ JJ o v = (⟨o.name,o.key,o.head,o.wanted ++ [v],o.had⟩,⟨o.name,v,o.wanted.length,JeB o.key (JbZ o.name v o.wanted.length)⟩,0) ∧ JH (JJ o v).1 = 0 ∧ Jdx o.key (JJ o v).2.1 = true ∧ (JJ o v).1.key = o.key ∧ (JJ o v).2.1.n = o.wanted.length ∧ (JJ o v).1.wanted.length = o.wanted.length + 1:=by
 have key:JH o = 0 ∧ Jcc v = false ∧ ¬ (o.wanted.length:Int) = 30:=by
  unfold JJ at h
  split at h
  ·
   contradiction
  ·
   rename_i h1
   unfold JdG at h1
   by_cases e1:JH o = 0
   ·
    rw [if_neg (by omega)] at h1
    by_cases e2:Jcc v = true
    ·
     rw [if_pos e2] at h1;omega
    ·
     rw [if_neg e2] at h1
     by_cases e3:(o.wanted.length:Int) = 30
     ·
      rw [if_pos e3] at h1;omega
     ·
      exact ⟨e1,by simpa using e2,e3⟩
   ·
    rw [if_pos e1] at h1;omega
 obtain ⟨e1,e2,e3⟩:=key
 have hi:=JaZ.1 e1
 have hv:v.length ≤ 20:=by unfold Jcc at e2;simp at e2;omega
 have hE:JdG o v = 0:=by unfold JdG;rw [if_neg (by omega),if_neg (by rw [e2];simp),if_neg e3]
 have hr:Ja7 o.name v = 0:=by unfold Ja7;rw [if_neg (by rw [hi.1];simp),if_neg (by omega)]
 have ht:JcE o.key o.name v o.wanted.length = (⟨o.name,v,o.wanted.length,JeB o.key (JbZ o.name v o.wanted.length)⟩,0):=by unfold JcE;rw [if_neg (by omega)]
 have hw:JJ o v = (⟨o.name,o.key,o.head,o.wanted ++ [v],o.had⟩,⟨o.name,v,o.wanted.length,JeB o.key (JbZ o.name v o.wanted.length)⟩,0):=by
  unfold JJ;rw [if_neg (by omega),ht]
 refine ⟨e1,hv,by omega,hw,?_,?_,?_,?_,?_⟩ <;> rw [hw] <;> simp only
 ·
  rw [JaZ]
  refine ⟨hi.1,hi.2.1,by simp;omega,fun s hs=>?_,hi.2.2.2.2.1,by simp;omega⟩
  rcases List.mem_append.1 hs with hs | hs
  ·
   exact hi.2.2.2.1 s hs
  ·
   rw [List.mem_singleton.1 hs];exact hv
 ·
  unfold Jdx;simp [hr]
 ·
  simp
theorem JgS (G:Jt) (s:List UInt8) :Con Tryz.prog 44 #[Sr s] G [] (fun u G' L'=>u = Bo (Jcc s)):=by
 refine JL Tryz.func44 6 [(0,Sr s)] rfl (fun w0 G0=>?_)
 refine Jg [0] [(0,Sr s)] ?_
 refine Jg [0,0,0,0] [(2,Bo (decide (((s).length:Int) > 20)))] (Jk ?_)
 refine Jl [0] [Bo (decide (((s).length:Int) > 20))] (Jw (Jt.le_refl _) ?_)
 have hf_:(Jcc s) = (decide (((s).length:Int) > 20)):=by
  unfold Jcc;rw [Bool.eq_iff_iff];simp;omega
 · (try rw [hf_]);(simp only [JM];done)
theorem Jc1 (G:Jt) (vs_o:List Value) (o:JaX) (h_o:JbG.R G vs_o o) :Con Tryz.prog 13 #[.agg vs_o.toArray] G [] (fun u G' L'=>u = I (JH o)):=by
 obtain ⟨a1,c1,rfl,_,_,_,_,_,_,hs1,_⟩:=h_o
 refine JL Tryz.func13 36 [(0,(Jag o a1 c1))] rfl (fun w0 G0=>?_)
 refine Je (Jb ?_)
 refine Ju 1 #[Sr o.name,U o.key,I o.head.epoch,U o.head.root,U o.head.prev,I o.head.at_,Sl a1 o.wanted.length c1,I o.had] 52 (fun b1=>?_)
 refine Jd [0] [(1,Pt b1 0)] (Jc (Ja (Je (Je (Jb ?_)))))
 refine Jd [0,2] [(1,Pt b1 0),(5,Sr o.name)] ?_
 refine Ji 6 (Bo (JaC o.name)) (Jde G o.name) ?_
 refine Jd [0] [(1,Pt b1 0),(7,Bo (!(JaC o.name)))] (Jc (Ja ?_))
 refine Jo (!(JaC o.name)) (fun h1=>?_) (fun h1=>?_)
 try simp only [BB] at h1
 refine Jg [0] [(2,I 3)] (Jk (Jh ?_))
 refine Jl [0] [I 3] (Jw (Jt.le_refl _) ?_)
 have hf_:(JH o) = 3:=by
  unfold JH;(rw [if_pos (by simp_all)];done)
 · (try rw [hf_]);(simp only [JM];done)
 try simp only [BB] at h1
 refine Jn (Ja (Je (Je (Jb ?_))))
 refine Jd [0,2] [(1,Pt b1 0),(9,.agg #[I o.head.epoch,U o.head.root,U o.head.prev,I o.head.at_])] ?_
 refine Ji 10 (I (JC o.head)) (Jdn o.head G) ?_
 refine Jd [0] [(1,Pt b1 0),(3,I (JC o.head))] (Jc (Ja ?_))
 refine Jg [0,0] [(1,Pt b1 0),(3,I (JC o.head)),(12,Bo (!decide (JC o.head = 0)))] ?_
 refine Jo (!decide (JC o.head = 0)) (fun h2=>?_) (fun h2=>?_)
 try simp only [BB] at h2
 refine Jg [0,0] [(2,I (JC o.head))] (Jk (Jh ?_))
 refine Jl [0] [I (JC o.head)] (Jw (Jt.le_refl _) ?_)
 have hf_:(JH o) = (JC o.head):=by
  unfold JH;(rw [if_neg (by simp_all),if_pos (by omega)];done)
 · (try rw [hf_]);(simp only [JM];done)
 try simp only [BB] at h2
 refine Jn (Ja (Je (Jy (Je (Jb ?_)))))
 refine Jd [0,2,0,0,0] [(1,Pt b1 0),(19,Bo (decide ((o.wanted.length:Int) > 30)))] ?_
 refine Jb8 (fun bb=>[(1,Pt b1 0),(19,Bo bb)]) (decide ((o.wanted.length:Int) > 30)) (fun h3=>?_) (fun h3=>?_)
 try simp only [BB] at h3
 refine Jd [1,1,1,0,0] [(1,Pt b1 0),(14,Bo true)] (Jc (Ja ?_))
 refine JT ?_
 refine Jg [0] [(2,I 2)] (Jk (Js (Jh ?_)))
 refine Jl [0] [I 2] (Jw (Jt.le_refl _) ?_)
 have hf_:(JH o) = 2:=by
  unfold JH;(rw [if_neg (by simp_all),if_neg (by omega)];(rw [if_pos (by simp_all)];done))
 · (try rw [hf_]);(simp only [JM];done)
 try simp only [BB] at h3
 refine Jd [0,2] [(1,Pt b1 0),(19,Bo false),(21,Sl a1 o.wanted.length c1)] ?_
 refine Ji 22 (Bo (o.wanted.any (fun x0=>Jcc x0))) (Jre G a1 c1 o.wanted hs1 44 #[] (fun x0=>Jcc x0) (fun _ _=>by kernel_rfl) (fun x0 hx0=>JgS G x0)) ?_
 refine Jd [0,0] [(1,Pt b1 0),(14,Bo (o.wanted.any (fun x0=>Jcc x0)))] (Jc (Ja ?_))
 refine Jo (o.wanted.any (fun x0=>Jcc x0)) (fun h4=>?_) (fun h4=>?_)
 try simp only [BB] at h4
 refine Jg [0] [(2,I 2)] (Jk (Js (Jh ?_)))
 refine Jl [0] [I 2] (Jw (Jt.le_refl _) ?_)
 have hf_:(JH o) = 2:=by
  unfold JH;(rw [if_neg (by simp_all),if_neg (by omega)];(rw [if_pos (by simp_all)];done))
 · (try rw [hf_]);(simp only [JM];done)
 try simp only [BB] at h4
 refine Je (Jb ?_)
 refine Jd [0,2,0,0] [(1,Pt b1 0),(28,Bo (decide (o.had < 0)))] ?_
 refine Jay (decide (o.had < 0)) (fun bb=>[(1,Pt b1 0),(28,Bo bb)]) [1,1,1,1,1,1,0] [0,2,0,2,0,0,0] (fun bb=>[(35,Bo (bb || (decide (o.had > (o.wanted.length:Int)))))]) ?_
 refine Jd [0] [(24,Bo ((decide (o.had < 0)) || (decide (o.had > (o.wanted.length:Int)))))] (Jc (Ja ?_))
 refine Jo ((decide (o.had < 0)) || (decide (o.had > (o.wanted.length:Int)))) (fun h5=>?_) (fun h5=>?_)
 try simp only [BB] at h5
 refine Jg [0] [(2,I 4)] (Jk (Js (Jh ?_)))
 refine Jl [0] [I 4] (Jw (Jt.le_refl _) ?_)
 have hf_:(JH o) = 4:=by
  unfold JH;(rw [if_neg (by simp_all),if_neg (by omega)];(rw [if_neg (by simp_all),if_pos (by omega)];done))
 · (try rw [hf_]);(simp only [JM];done)
 try simp only [BB] at h5
 refine Jn (JK (Ja ?_))
 refine Jg [0] [(2,I 0)] (Jk ?_)
 refine Jl [0] [I 0] (Jw (Jt.le_refl _) ?_)
 have hf_:(JH o) = 0:=by
  unfold JH;(rw [if_neg (by simp_all),if_neg (by omega)];(rw [if_neg (by simp_all),if_neg (by omega)];done))
 · (try rw [hf_]);(simp only [JM];done)
theorem Jhy (G:Jt) (name:List UInt8) (hw_name:(name).length ≤ 140737488351232) (key:Int) (hw_key:rU key) (vs_h:List Value) (h:JS) (h_h:Jaz.R G vs_h h) :Con Tryz.prog 68 #[Sr name,U key,.agg vs_h.toArray] G [] (fun u G' L'=>∃ (a1:Option Addr) (c2:Nat),u = .tuple #[.agg #[Sr (((JD name key h).1).name),U (((JD name key h).1).key),I (((JD name key h).1).head.epoch),U (((JD name key h).1).head.root),U (((JD name key h).1).head.prev),I (((JD name key h).1).head.at_),Sl a1 ((((JD name key h).1).wanted).length) c2,I (((JD name key h).1).had)],I ((JD name key h).2)] ∧ ((((JD name key h).1).name).length ≤ 140737488351232) ∧ (rU (((JD name key h).1).key)) ∧ (rI (((JD name key h).1).head.epoch)) ∧ (rU (((JD name key h).1).head.root)) ∧ (rU (((JD name key h).1).head.prev)) ∧ (rI (((JD name key h).1).head.at_)) ∧ (RS ES G' a1 c2 (((JD name key h).1).wanted)) ∧ (rI (((JD name key h).1).had)) ∧ L' = []):=by
 obtain ⟨rfl,w1,w2,w3,w4⟩:=h_h
 refine JL Tryz.func68 21 [(0,Sr name),(1,U key),(2,.agg #[I h.epoch,U h.root,U h.prev,I h.at_])] rfl (fun w0 G0=>?_)
 refine Je (Jb ?_)
 refine Ju 5 #[I h.epoch,U h.root,U h.prev,I h.at_] 50 (fun b1=>?_)
 refine Ju 6 #[Sr ([]),U 0,I 0,U 0,U 0,I 0,Sl none 0 0,I 0] 52 (fun b2=>?_)
 refine Jd [0] [(0,Sr name),(1,U key),(5,Pt b1 0),(6,Pt b2 0)] (Jc (Ja (Je (Jb ?_))))
 refine Jd [0,0,4,0] [(6,Pt b2 0),(13,.agg #[Sr name,U key,I h.epoch,U h.root,U h.prev,I h.at_,Sl none 0 0,I 0])] ?_
 refine Ju 8 #[Sr ([]),U 0,I 0,U 0,U 0,I 0,Sl none 0 0,I 0] 52 (fun b3=>?_)
 refine Jaa [3] [(6,Pt b2 0),(8,Pt b3 0)] [[Sg b3 0 [Sr name,U key,I h.epoch,U h.root,U h.prev,I h.at_,Sl none 0 0,I 0]],[Sg b2 0 [Sr ([]),U 0,I 0,U 0,U 0,I 0,Sl none 0 0,I 0]],[Sg b1 0 [I h.epoch,U h.root,U h.prev,I h.at_]]] (Jc (Ja (Je (Je (Jb ?_)))))
 refine Jd [2] [(6,Pt b2 0),(8,Pt b3 0),(14,.agg #[Sr name,U key,I h.epoch,U h.root,U h.prev,I h.at_,Sl none 0 0,I 0])] ?_
 refine Ji 15 (I (JH (⟨name,key,h,[],0⟩:JaX))) (Jc1 G [Sr name,U key,I h.epoch,U h.root,U h.prev,I h.at_,Sl none 0 0,I 0] (⟨name,key,h,[],0⟩:JaX) (⟨none,0,rfl,hw_name,hw_key,w1,w2,w3,w4,(RS.nil' ES G),(by (simp;done))⟩)) ?_
 refine Jd [0] [(6,Pt b2 0),(8,Pt b3 0),(9,I (JH (⟨name,key,h,[],0⟩:JaX)))] (Jc (Ja ?_))
 refine Jg [0,0] [(6,Pt b2 0),(8,Pt b3 0),(9,I (JH (⟨name,key,h,[],0⟩:JaX))),(17,Bo (!decide (JH (⟨name,key,h,[],0⟩:JaX) = 0)))] ?_
 refine Jo (!decide (JH (⟨name,key,h,[],0⟩:JaX) = 0)) (fun h1=>?_) (fun h1=>?_)
 try simp only [BB] at h1
 refine Jg [0,0,5,0] [(6,Pt b2 0),(7,I (JH (⟨name,key,h,[],0⟩:JaX)))] (Jk (Jh ?_))
 have hf1:JD name key h = ((⟨[],0,(⟨0,0,0,0⟩:JS),[],0⟩:JaX),JH (⟨name,key,h,[],0⟩:JaX)):=by
  unfold JD JeJ JcV;simp_all
 refine Jl [1,0] [.agg #[Sr ([]),U 0,I 0,U 0,U 0,I 0,Sl none 0 0,I 0],I (JH (⟨name,key,h,[],0⟩:JaX))] (JY [] (.cons _ (.cons _ (.cons _ .slnil))) (Jt.le_refl _) ?_)
 rw [hf1]
 try dsimp only
 exact ⟨none,0,rfl,(Nat.le_of_ble_eq_true rfl),(by omega),(by omega),(by omega),(by omega),(by omega),(RS.nil' ES G),(by omega),rfl⟩
 try simp only [BB] at h1
 refine Jn (Ja ?_)
 refine JcA [2,5,0] [(6,Pt b2 0),(7,I 0)] [[Sg b3 0 [Sr name,U key,I h.epoch,U h.root,U h.prev,I h.at_,Sl none 0 0,I 0]],[Sg b2 0 [Sr name,U key,I h.epoch,U h.root,U h.prev,I h.at_,Sl none 0 0,I 0]],[Sg b1 0 [I h.epoch,U h.root,U h.prev,I h.at_]]] ?_
 refine Jk ?_
 have hf2:JD name key h = ((⟨name,key,h,[],0⟩:JaX),0):=by
  unfold JD JeJ JcV;simp_all
 refine Jl [1,0] [.agg #[Sr name,U key,I h.epoch,U h.root,U h.prev,I h.at_,Sl none 0 0,I 0],I 0] (JY [] (.cons _ (.cons _ (.cons _ .slnil))) (Jt.le_refl _) ?_)
 rw [hf2]
 try dsimp only
 exact ⟨none,0,rfl,hw_name,hw_key,w1,w2,w3,w4,(RS.nil' ES G),(by omega),rfl⟩
theorem Jeh (G:Jt) (vs_o:List Value) (o:JaX) (h_o:JbG.R G vs_o o) (v:List UInt8) (hw_v:(v).length ≤ 140737488351232) :Con Tryz.prog 107 #[.agg vs_o.toArray,Sr v] G [] (fun u G' L'=>∃ (a1:Option Addr) (c2:Nat),u = .tuple #[.agg #[Sr (((JJ o v).1).name),U (((JJ o v).1).key),I (((JJ o v).1).head.epoch),U (((JJ o v).1).head.root),U (((JJ o v).1).head.prev),I (((JJ o v).1).head.at_),Sl a1 ((((JJ o v).1).wanted).length) c2,I (((JJ o v).1).had)],.agg #[Sr (((JJ o v).2.1).name),Sr (((JJ o v).2.1).value),U (((JJ o v).2.1).n),U (((JJ o v).2.1).tag)],I ((JJ o v).2.2)] ∧ ((((JJ o v).1).name).length ≤ 140737488351232) ∧ (rU (((JJ o v).1).key)) ∧ (rI (((JJ o v).1).head.epoch)) ∧ (rU (((JJ o v).1).head.root)) ∧ (rU (((JJ o v).1).head.prev)) ∧ (rI (((JJ o v).1).head.at_)) ∧ (RS ES G' a1 c2 (((JJ o v).1).wanted)) ∧ (rI (((JJ o v).1).had)) ∧ ((((JJ o v).2.1).name).length ≤ 140737488351232) ∧ ((((JJ o v).2.1).value).length ≤ 140737488351232) ∧ (rU (((JJ o v).2.1).n)) ∧ (rU (((JJ o v).2.1).tag)) ∧ L' = []):=by
 obtain ⟨a1,c1,rfl,w1,w2,w3,w4,w5,w6,hs1,w7⟩:=h_o
 refine JL Tryz.func107 52 [(0,(Jag o a1 c1)),(1,Sr v)] rfl (fun w0 G0=>?_)
 refine Je (Jb ?_)
 refine Ju 2 #[Sr o.name,U o.key,I o.head.epoch,U o.head.root,U o.head.prev,I o.head.at_,Sl a1 o.wanted.length c1,I o.had] 52 (fun b1=>?_)
 refine Ju 4 #[Sr ([]),U 0,I 0,U 0,U 0,I 0,Sl none 0 0,I 0] 52 (fun b2=>?_)
 refine Ju 5 #[Sr ([]),Sr ([]),U 0,U 0] 83 (fun b3=>?_)
 refine Jd [0] [(1,Sr v),(2,Pt b1 0),(4,Pt b2 0),(5,Pt b3 0)] (Jc (Ja (Je (Jb ?_))))
 refine Jd [6] [(1,Sr v),(2,Pt b1 0),(4,Pt b2 0),(5,Pt b3 0),(10,(Jag o a1 c1))] ?_
 refine Ji 11 (I (JH o)) (Jc1 G (Jap o a1 c1) o (⟨a1,c1,rfl,w1,w2,w3,w4,w5,w6,hs1,w7⟩)) ?_
 refine Jd [0] [(1,Sr v),(2,Pt b1 0),(4,Pt b2 0),(5,Pt b3 0),(7,I (JH o))] (Jc (Ja (Je (Jy ?_))))
 refine Jg [0,0,0] [(1,Sr v),(2,Pt b1 0),(4,Pt b2 0),(5,Pt b3 0),(7,I (JH o)),(12,Bo (!decide (JH o = 0)))] ?_
 refine Jo (!decide (JH o = 0)) (fun h1=>?_) (fun h1=>?_)
 try simp only [BB] at h1
 refine Jg [0,0,0,5,3,0] [(4,Pt b2 0),(5,Pt b3 0),(6,I (JH o))] (Jk (Js (Jh ?_)))
 have hf1:JJ o v = ((⟨[],0,(⟨0,0,0,0⟩:JS),[],0⟩:JaX),(⟨[],[],0,0⟩:Jc5),JH o):=by
  unfold JJ JdG JeJ Jl1 JcV;simp_all
 refine Jl [1,0,0] [.agg #[Sr ([]),U 0,I 0,U 0,U 0,I 0,Sl none 0 0,I 0],.agg #[Sr ([]),Sr ([]),U 0,U 0],I (JH o)] (JY [] (.cons _ (.cons _ (.cons _ .slnil))) (Jt.le_refl _) ?_)
 rw [hf1]
 try dsimp only
 exact ⟨none,0,rfl,(Nat.le_of_ble_eq_true rfl),(by omega),(by omega),(by omega),(by omega),(by omega),(RS.nil' ES G),(by omega),(Nat.le_of_ble_eq_true rfl),(Nat.le_of_ble_eq_true rfl),(by omega),(by omega),rfl⟩
 try simp only [BB] at h1
 refine Je (Jb ?_)
 refine Jd [0] [(1,Sr v),(2,Pt b1 0),(4,Pt b2 0),(5,Pt b3 0),(19,Sr v)] ?_
 refine Ji 20 (Bo (Jcc v)) (JgS G v) ?_
 refine Jd [0] [(1,Sr v),(2,Pt b1 0),(4,Pt b2 0),(5,Pt b3 0),(18,Bo (Jcc v))] (Jc (Ja ?_))
 refine Jo (Jcc v) (fun h2=>?_) (fun h2=>?_)
 try simp only [BB] at h2
 refine Jg [0,0,5,3,0] [(4,Pt b2 0),(5,Pt b3 0),(6,I 2)] (Jk (Js (Jh ?_)))
 have hf2:JJ o v = ((⟨[],0,(⟨0,0,0,0⟩:JS),[],0⟩:JaX),(⟨[],[],0,0⟩:Jc5),2):=by
  unfold JJ JdG JeJ Jl1 JcV;simp_all
 refine Jl [1,0,0] [.agg #[Sr ([]),U 0,I 0,U 0,U 0,I 0,Sl none 0 0,I 0],.agg #[Sr ([]),Sr ([]),U 0,U 0],I 2] (JY [] (.cons _ (.cons _ (.cons _ .slnil))) (Jt.le_refl _) ?_)
 rw [hf2]
 try dsimp only
 exact ⟨none,0,rfl,(Nat.le_of_ble_eq_true rfl),(by omega),(by omega),(by omega),(by omega),(by omega),(RS.nil' ES G),(by omega),(Nat.le_of_ble_eq_true rfl),(Nat.le_of_ble_eq_true rfl),(by omega),(by omega),rfl⟩
 try simp only [BB] at h2
 refine Jg [0,6,0,0,0] [(1,Sr v),(2,Pt b1 0),(4,Pt b2 0),(5,Pt b3 0),(23,Bo (decide ((o.wanted.length:Int) = 30)))] ?_
 refine Jo (decide ((o.wanted.length:Int) = 30)) (fun h3=>?_) (fun h3=>?_)
 try simp only [BB] at h3
 refine Jg [0,0,5,3,0] [(4,Pt b2 0),(5,Pt b3 0),(6,I 7)] (Jk (Js (Jh ?_)))
 have hf3:JJ o v = ((⟨[],0,(⟨0,0,0,0⟩:JS),[],0⟩:JaX),(⟨[],[],0,0⟩:Jc5),7):=by
  unfold JJ JdG JeJ Jl1 JcV;simp_all
 refine Jl [1,0,0] [.agg #[Sr ([]),U 0,I 0,U 0,U 0,I 0,Sl none 0 0,I 0],.agg #[Sr ([]),Sr ([]),U 0,U 0],I 7] (JY [] (.cons _ (.cons _ (.cons _ .slnil))) (Jt.le_refl _) ?_)
 rw [hf3]
 try dsimp only
 exact ⟨none,0,rfl,(Nat.le_of_ble_eq_true rfl),(by omega),(by omega),(by omega),(by omega),(by omega),(RS.nil' ES G),(by omega),(Nat.le_of_ble_eq_true rfl),(Nat.le_of_ble_eq_true rfl),(by omega),(by omega),rfl⟩
 try simp only [BB] at h3
 refine Jn (JK (Ja (Je (Jb ?_))))
 refine Jd [0,6,0,6,0,0,6,0,0] [(1,Sr v),(2,Pt b1 0),(4,Pt b2 0),(5,Pt b3 0),(32,U o.key),(34,Sr o.name),(35,Sr v),(39,U (IntKind.u64.wrap (o.wanted.length:Int)))] ?_
 have e1:IntKind.u64.wrap (o.wanted.length:Int) = (o.wanted.length:Int):=IntWalk.u64_in _ (by (have q_:=JaZ.1 ‹_›;omega))
 refine J1 (fr':=[(1,Sr v),(2,Pt b1 0),(4,Pt b2 0),(5,Pt b3 0),(32,U o.key),(34,Sr o.name),(35,Sr v),(39,U (o.wanted.length:Int))]) (L':=[[Sg b3 0 [Sr ([]),Sr ([]),U 0,U 0]],[Sg b2 0 [Sr ([]),U 0,I 0,U 0,U 0,I 0,Sl none 0 0,I 0]],[Sg b1 0 [Sr o.name,U o.key,I o.head.epoch,U o.head.root,U o.head.prev,I o.head.at_,Sl a1 o.wanted.length c1,I o.had]]]) (by simp only [Jk4,Jap,JlR,Jag,e1];first | done | rfl) (by rfl) ?_
 clear e1
 refine JN 40 (Jm4 G o.key o.name ‹_› v ‹_› (o.wanted.length:Int) (by (have q_:=JaZ.1 ‹_›;omega))) (fun v G1 L1 hl1 hp=>?_)
 obtain ⟨rfl,w8,w9,w10,w11,rfl⟩:=hp
 refine Jd [0,0,0] [(1,Sr v),(2,Pt b1 0),(4,Pt b2 0),(5,Pt b3 0),(41,(JlR (JcE o.key o.name v (o.wanted.length:Int)).1)),(42,I ((JcE o.key o.name v (o.wanted.length:Int)).2))] ?_
 refine Ju 8 #[Sr ([]),Sr ([]),U 0,U 0] 83 (fun b4=>?_)
 refine Jaa [3,0] [(1,Sr v),(2,Pt b1 0),(4,Pt b2 0),(5,Pt b3 0),(8,Pt b4 0)] [[Sg b4 0 (Jk4 (JcE o.key o.name v (o.wanted.length:Int)).1)],[Sg b3 0 [Sr ([]),Sr ([]),U 0,U 0]],[Sg b2 0 [Sr ([]),U 0,I 0,U 0,U 0,I 0,Sl none 0 0,I 0]],[Sg b1 0 (Jap o a1 c1)]] (Jc (Ja (Je (Jb ?_))))
 refine Jd [0,8] [(1,Sr v),(2,Pt b1 0),(4,Pt b2 0),(5,Pt b3 0),(8,Pt b4 0),(44,Sl a1 o.wanted.length c1)] ?_
 refine JN 45 (Jkz G1 a1 c1 o.wanted (hs1.mono hl1)) (fun v G2 L1 hl2 hp=>?_)
 obtain ⟨a2,c2,_,rfl,hr1,rfl⟩:=hp
 refine Jd [0] [(2,Pt b1 0),(4,Pt b2 0),(5,Pt b3 0),(8,Pt b4 0),(45,Sl a2 o.wanted.length c2),(46,Sr v)] ?_
 refine JaB 47 1 #[Sr v] 9 (fun b5=>?_)
 refine JbA (b:=b5) (cs:=[Sr v]) 48 9 1 0 (E:=ES) v hr1 ⟨rfl,‹_›⟩ (by have q_:=JaZ.1 ‹_›;(try simp only [ES,List.length_append,List.length_cons,List.length_nil]);omega) (by have q_:=JaZ.1 ‹_›;(try simp only [ES,List.length_append,List.length_cons,List.length_nil]);omega) (fun a3 c3 r2 hr2=>?_)
 refine Jaa [0,13] [(2,Pt b1 0),(4,Pt b2 0),(5,Pt b3 0),(8,Pt b4 0)] [[Sg b5 0 [Sr v]],r2,[Sg b4 0 (Jk4 (JcE o.key o.name v (o.wanted.length:Int)).1)],[Sg b3 0 [Sr ([]),Sr ([]),U 0,U 0]],[Sg b2 0 [Sr ([]),U 0,I 0,U 0,U 0,I 0,Sl none 0 0,I 0]],[Sg b1 0 (Jap (⟨o.name,o.key,o.head,(o.wanted ++ [v]),o.had⟩:JaX) a3 c3)]] (Jc (Ja (Je ?_)))
 refine Jau [2,3] ?_
 refine Jb6 [(0,(Jag (⟨o.name,o.key,o.head,(o.wanted ++ [v]),o.had⟩:JaX) a3 c3)),(1,(JlR (JcE o.key o.name v (o.wanted.length:Int)).1))] ?_
 refine JZ [] [(0,12),(1,6)] [] [2] (List.forall_mem_nil _) (List.forall_mem_cons.2 ⟨?_,List.forall_mem_nil _⟩)
 refine JP 2 [(4,Pt b2 0),(50,(Jag (⟨o.name,o.key,o.head,(o.wanted ++ [v]),o.had⟩:JaX) a3 c3))] (fun X=>?_)
 refine JaU 4 [[Sg b5 0 [Sr v]],r2,[Sg b4 0 (Jk4 (JcE o.key o.name v (o.wanted.length:Int)).1)],[Sg b3 0 [Sr ([]),Sr ([]),U 0,U 0]],[Sg b2 0 (Jap (⟨o.name,o.key,o.head,(o.wanted ++ [v]),o.had⟩:JaX) a3 c3)],[Sg b1 0 (Jap (⟨o.name,o.key,o.head,(o.wanted ++ [v]),o.had⟩:JaX) a3 c3)]] ?_
 refine Jao [] ?_
 refine JZ [0] [(1,6)] [] [3] (List.forall_mem_nil _) (List.forall_mem_cons.2 ⟨?_,List.forall_mem_nil _⟩)
 refine JP 3 [(5,Pt b3 0),(51,(JlR (JcE o.key o.name v (o.wanted.length:Int)).1))] (fun X=>?_)
 refine JaU 3 [[Sg b5 0 [Sr v]],r2,[Sg b4 0 (Jk4 (JcE o.key o.name v (o.wanted.length:Int)).1)],[Sg b3 0 (Jk4 (JcE o.key o.name v (o.wanted.length:Int)).1)],[Sg b2 0 (Jap (⟨o.name,o.key,o.head,(o.wanted ++ [v]),o.had⟩:JaX) a3 c3)],[Sg b1 0 (Jap (⟨o.name,o.key,o.head,(o.wanted ++ [v]),o.had⟩:JaX) a3 c3)]] ?_
 refine Jao [(4,I 0)] ?_
 refine Jav [0,1] [(4,0)] [] [(4,Pt b2 0),(5,Pt b3 0),(6,I 0)] (List.forall_mem_nil _) ?_
 refine Ja (Jk ?_)
 refine Jcb (E:=ES) 1 hr2 (by have q_:=JaZ.1 ‹_›;(try simp only [ES,List.length_append,List.length_cons,List.length_nil]);omega) (fun G3 hl3 hs2=>?_)
 have hf4:JJ o v = ((⟨o.name,o.key,o.head,o.wanted ++ [v],o.had⟩:JaX),((JcE o.key o.name v (o.wanted.length:Int)).1),0):=by
  unfold JJ JdG JeJ Jl1 JcV;simp_all
 refine Jl [4,3,0] [(Jag (⟨o.name,o.key,o.head,(o.wanted ++ [v]),o.had⟩:JaX) a3 c3),(JlR (JcE o.key o.name v (o.wanted.length:Int)).1),I 0] (JY [] (.cons _ (.cons _ (.cons _ (.cons _ (.cons _ (.cons _ .slnil)))))) (Jt.le_trans (Jt.le_trans hl1 hl2) hl3) ?_)
 rw [hf4]
 try dsimp only
 exact ⟨a3,c3,rfl,‹_›,‹_›,‹_›,‹_›,‹_›,‹_›,hs2,‹_›,w8,w9,w10,w11,rfl⟩
end Go.Proofs.YtnnlpbjdignhaaaGreatDoor
