import Derived.Test.YtnnlpbjdignhaaaGreatDoorTfHeadN
namespace Go.Proofs.YtnnlpbjdignhaaaGreatDoor
open Go.Tx
set_option linter.unusedVariables false
set_option linter.unusedSimpArgs false
def YM:KX:=⟨[],0,WX,[],0⟩
def Wf (s:List UInt8):Bool:=decide (s.length > 20)
def J5 (o:KX):Int:=if KD o.name=false then 3 else if JD o.head ≠ 0 then JD o.head else if 30<(o.wanted.length:Int)∨(o.wanted.any fun x0=>Wf x0)=true then 2 else if o.had<0∨(o.wanted.length:Int)<o.had then 4 else 0
def JE (name:List UInt8) (key:Int) (h:JU):KX×Int:=if J5 ⟨name,key,h,[],0⟩ ≠ 0 then (YM,J5 ⟨name,key,h,[],0⟩) else (⟨name,key,h,[],0⟩,0)
def ZH (o:KX) (v:List UInt8):Int:=if J5 o ≠ 0 then J5 o else if Wf v=true then 2 else if (o.wanted.length:Int)=30 then 7 else 0
def JJ (o:KX) (v:List UInt8):KX×W6×Int:=if ZH o v ≠ 0 then (YM,Jga,ZH o v) else (⟨o.name,o.key,o.head,o.wanted++[v],o.had⟩,(WG o.key o.name v o.wanted.length).1,0)
theorem K1 {o:KX}:J5 o=0 ↔ KD o.name=true∧JD o.head=0∧o.wanted.length≤30∧(∀ s∈o.wanted,s.length≤20)∧0≤o.had∧o.had≤o.wanted.length:=by
 unfold J5
 have e:(o.wanted.any fun x0=>Wf x0)=true ↔ ¬ ∀ s∈o.wanted,s.length≤20:=by
  rw [List.any_eq_true]
  unfold Wf
  constructor
  ·
   rintro ⟨x,hx,h⟩ hc
   have:=hc x hx
   simp at h;omega
  ·
   intro h
   apply Classical.byContradiction
   intro hc
   refine h fun s hs=>?_
   apply Classical.byContradiction
   intro h2
   exact hc ⟨s,hs,by simp;omega⟩
 cases hn:KD o.name with
 | false=>simp
 | true =>
  rw [if_neg (by simp)]
  by_cases h1:JD o.head=0
  ·
   rw [if_neg (by omega)]
   by_cases h2:30<(o.wanted.length:Int)∨(o.wanted.any fun x0=>Wf x0)=true
   ·
    rw [if_pos h2]
    constructor
    ·
     intro h;cases h
    ·
     rintro ⟨_,_,h3,h4,_⟩
     rcases h2 with h2 | h2
     ·
      omega
     ·
      exact absurd h4 (e.1 h2)
   ·
    rw [if_neg h2]
    have h3:o.wanted.length≤30:=Nat.le_of_not_lt fun h=>h2 (.inl (by omega))
    have h4:∀ s∈o.wanted,s.length≤20:=Decidable.not_not.1 fun h=>h2 (.inr (e.2 h))
    split
    ·
     constructor
     ·
      intro h;cases h
     ·
      rintro ⟨_,_,_,_,_,_⟩;omega
    ·
     exact ⟨fun _=>⟨rfl,h1,h3,h4,by omega,by omega⟩,fun _=>rfl⟩
  ·
   rw [if_pos h1]
   exact ⟨fun h=>absurd h h1,fun h=>absurd h.2.1 h1⟩
theorem Jfu {o:KX} {v:List UInt8} (h:(JJ o v).2.2=0):J5 o=0∧v.length≤20∧o.wanted.length<30∧JJ o v=(⟨o.name,o.key,o.head,o.wanted++[v],o.had⟩,⟨o.name,v,o.wanted.length,YD o.key (Q3 o.name v o.wanted.length)⟩,0)∧J5 (JJ o v).1=0∧Zx o.key (JJ o v).2.1=true∧(JJ o v).1.key=o.key∧(JJ o v).2.1.n=o.wanted.length∧(JJ o v).1.wanted.length=o.wanted.length+1:=by
 have key:J5 o=0∧Wf v=false∧¬ (o.wanted.length:Int)=30:=by
  unfold JJ at h
  split at h
  ·
   contradiction
  ·
   rename_i h1
   unfold ZH at h1
   by_cases e1:J5 o=0
   ·
    rw [if_neg (by omega)] at h1
    by_cases e2:Wf v=true
    ·
     rw [if_pos e2] at h1;omega
    ·
     rw [if_neg e2] at h1
     by_cases e3:(o.wanted.length:Int)=30
     ·
      rw [if_pos e3] at h1;omega
     ·
      exact ⟨e1,by simpa using e2,e3⟩
   ·
    rw [if_pos e1] at h1;omega
 obtain ⟨e1,e2,e3⟩:=key
 have hi:=K1.1 e1
 have hv:v.length≤20:=by unfold Wf at e2;simp at e2;omega
 have hE:ZH o v=0:=by unfold ZH;rw [if_neg (by omega),if_neg (by rw [e2];simp),if_neg e3]
 have hr:K9 o.name v=0:=by unfold K9;rw [if_neg (by rw [hi.1];simp),if_neg (by omega)]
 have ht:WG o.key o.name v o.wanted.length=(⟨o.name,v,o.wanted.length,YD o.key (Q3 o.name v o.wanted.length)⟩,0):=by unfold WG;rw [if_neg (by omega)]
 have hw:JJ o v=(⟨o.name,o.key,o.head,o.wanted++[v],o.had⟩,⟨o.name,v,o.wanted.length,YD o.key (Q3 o.name v o.wanted.length)⟩,0):=by
  unfold JJ;rw [if_neg (by omega),ht]
 refine ⟨e1,hv,by omega,hw,?_,?_,?_,?_,?_⟩ <;> rw [hw] <;> simp only
 ·
  rw [K1]
  refine ⟨hi.1,hi.2.1,by simp;omega,fun s hs=>?_,hi.2.2.2.2.1,by simp;omega⟩
  rcases List.mem_append.1 hs with hs | hs
  ·
   exact hi.2.2.2.1 s hs
  ·
   rw [List.mem_singleton.1 hs];exact hv
 ·
  unfold Zx;simp [hr]
 ·
  simp
theorem Ja1 (G:Jt) (s:List UInt8) :QE Tryz.prog 44 #[Sr s] G [] (fun u G' L'=>u=Bo (Wf s)):=by
 refine JL Tryz.func44 6 [(0,Sr s)] rfl (fun w0 G0=>?_)
 refine Jg [0] [(0,Sr s)] ?_
 refine Jg [0,0,0,0] [(2,Bo (decide (((s).length:Int) > 20)))] (Jk ?_)
 refine Jl [0] [Bo (decide (((s).length:Int) > 20))] (Jv (Jt.le_refl _) ?_)
 have hf_:(Wf s)=(decide (((s).length:Int) > 20)):=by
  unfold Wf;rw [Bool.eq_iff_iff];simp;omega
 · (try rw [hf_]);(simp only [JM];done)
theorem Vv (G:Jt) (vs_o:List Value) (o:KX) (h_o:QI.R G vs_o o) :QE Tryz.prog 13 #[.agg vs_o.toArray] G [] (fun u G' L'=>u=I (J5 o)):=by
 obtain ⟨a1,c1,rfl,_,_,_,_,_,_,hs1,_⟩:=h_o
 refine JL Tryz.func13 36 [(0,(Ko o a1 c1))] rfl (fun w0 G0=>?_)
 refine Je (Jb ?_)
 refine Ju 1 #[Sr o.name,U o.key,I o.head.epoch,U o.head.root,U o.head.prev,I o.head.at_,Sl a1 o.wanted.length c1,I o.had] 52 (fun b1=>?_)
 refine Jc [0] [(1,Pt b1 0)] (Jd (Ja (Je (Je (Jb ?_)))))
 refine Jc [0,2] [(1,Pt b1 0),(5,Sr o.name)] ?_
 refine Ji 6 (Bo (KD o.name)) (Zd G o.name) ?_
 refine Jc [0] [(1,Pt b1 0),(7,Bo (!(KD o.name)))] (Jd (Ja ?_))
 refine Jo (!(KD o.name)) (fun h1=>?_) (fun h1=>?_)
 try simp only [BB] at h1
 refine Jg [0] [(2,I 3)] (Jk (Jh ?_))
 refine Jl [0] [I 3] (Jv (Jt.le_refl _) ?_)
 have hf_:(J5 o)=3:=by
  unfold J5;(rw [if_pos (by simp_all)];done)
 · (try rw [hf_]);(simp only [JM];done)
 try simp only [BB] at h1
 refine Jm (Ja (Je (Je (Jb ?_))))
 refine Jc [0,2] [(1,Pt b1 0),(9,.agg #[I o.head.epoch,U o.head.root,U o.head.prev,I o.head.at_])] ?_
 refine Ji 10 (I (JD o.head)) (Zl o.head G) ?_
 refine Jc [0] [(1,Pt b1 0),(3,I (JD o.head))] (Jd (Ja ?_))
 refine Jg [0,0] [(1,Pt b1 0),(3,I (JD o.head)),(12,Bo (!decide (JD o.head=0)))] ?_
 refine Jo (!decide (JD o.head=0)) (fun h2=>?_) (fun h2=>?_)
 try simp only [BB] at h2
 refine Jg [0,0] [(2,I (JD o.head))] (Jk (Jh ?_))
 refine Jl [0] [I (JD o.head)] (Jv (Jt.le_refl _) ?_)
 have hf_:(J5 o)=(JD o.head):=by
  unfold J5;(rw [if_neg (by simp_all),if_pos (by omega)];done)
 · (try rw [hf_]);(simp only [JM];done)
 try simp only [BB] at h2
 refine Jm (Ja (Je (Jy (Je (Jb ?_)))))
 refine Jc [0,2,0,0,0] [(1,Pt b1 0),(19,Bo (decide ((o.wanted.length:Int) > 30)))] ?_
 refine QZ (fun bb=>[(1,Pt b1 0),(19,Bo bb)]) (decide ((o.wanted.length:Int) > 30)) (fun h3=>?_) (fun h3=>?_)
 try simp only [BB] at h3
 refine Jc [1,1,1,0,0] [(1,Pt b1 0),(14,Bo true)] (Jd (Ja ?_))
 refine J0 ?_
 refine Jg [0] [(2,I 2)] (Jk (Js (Jh ?_)))
 refine Jl [0] [I 2] (Jv (Jt.le_refl _) ?_)
 have hf_:(J5 o)=2:=by
  unfold J5;(rw [if_neg (by simp_all),if_neg (by omega)];(rw [if_pos (by simp_all)];done))
 · (try rw [hf_]);(simp only [JM];done)
 try simp only [BB] at h3
 refine Jc [0,2] [(1,Pt b1 0),(19,Bo false),(21,Sl a1 o.wanted.length c1)] ?_
 refine Ji 22 (Bo (o.wanted.any (fun x0=>Wf x0))) (Jlp G a1 c1 o.wanted hs1 44 #[] (fun x0=>Wf x0) (fun _ _=>by kernel_rfl) (fun x0 hx0=>Ja1 G x0)) ?_
 refine Jc [0,0] [(1,Pt b1 0),(14,Bo (o.wanted.any (fun x0=>Wf x0)))] (Jd (Ja ?_))
 refine Jo (o.wanted.any (fun x0=>Wf x0)) (fun h4=>?_) (fun h4=>?_)
 try simp only [BB] at h4
 refine Jg [0] [(2,I 2)] (Jk (Js (Jh ?_)))
 refine Jl [0] [I 2] (Jv (Jt.le_refl _) ?_)
 have hf_:(J5 o)=2:=by
  unfold J5;(rw [if_neg (by simp_all),if_neg (by omega)];(rw [if_pos (by simp_all)];done))
 · (try rw [hf_]);(simp only [JM];done)
 try simp only [BB] at h4
 refine Je (Jb ?_)
 refine Jc [0,2,0,0] [(1,Pt b1 0),(28,Bo (decide (o.had<0)))] ?_
 refine Ky (decide (o.had<0)) (fun bb=>[(1,Pt b1 0),(28,Bo bb)]) [1,1,1,1,1,1,0] [0,2,0,2,0,0,0] (fun bb=>[(35,Bo (bb || (decide (o.had > (o.wanted.length:Int)))))]) ?_
 refine Jc [0] [(24,Bo ((decide (o.had<0)) || (decide (o.had > (o.wanted.length:Int)))))] (Jd (Ja ?_))
 refine Jo ((decide (o.had<0)) || (decide (o.had > (o.wanted.length:Int)))) (fun h5=>?_) (fun h5=>?_)
 try simp only [BB] at h5
 refine Jg [0] [(2,I 4)] (Jk (Js (Jh ?_)))
 refine Jl [0] [I 4] (Jv (Jt.le_refl _) ?_)
 have hf_:(J5 o)=4:=by
  unfold J5;(rw [if_neg (by simp_all),if_neg (by omega)];(rw [if_neg (by simp_all),if_pos (by omega)];done))
 · (try rw [hf_]);(simp only [JM];done)
 try simp only [BB] at h5
 refine Jm (JK (Ja ?_))
 refine Jg [0] [(2,I 0)] (Jk ?_)
 refine Jl [0] [I 0] (Jv (Jt.le_refl _) ?_)
 have hf_:(J5 o)=0:=by
  unfold J5;(rw [if_neg (by simp_all),if_neg (by omega)];(rw [if_neg (by simp_all),if_neg (by omega)];done))
 · (try rw [hf_]);(simp only [JM];done)
theorem JbF (G:Jt) (name:List UInt8) (hw_name:(name).length≤140737488351232) (key:Int) (hw_key:rU key) (vs_h:List Value) (h:JU) (h_h:KA.R G vs_h h) :QE Tryz.prog 68 #[Sr name,U key,.agg vs_h.toArray] G [] (fun u G' L'=>∃ (a1:Option Addr) (c2:Nat),u=.tuple #[.agg #[Sr (((JE name key h).1).name),U (((JE name key h).1).key),I (((JE name key h).1).head.epoch),U (((JE name key h).1).head.root),U (((JE name key h).1).head.prev),I (((JE name key h).1).head.at_),Sl a1 ((((JE name key h).1).wanted).length) c2,I (((JE name key h).1).had)],I ((JE name key h).2)]∧((((JE name key h).1).name).length≤140737488351232)∧(rU (((JE name key h).1).key))∧(rI (((JE name key h).1).head.epoch))∧(rU (((JE name key h).1).head.root))∧(rU (((JE name key h).1).head.prev))∧(rI (((JE name key h).1).head.at_))∧(RS ES G' a1 c2 (((JE name key h).1).wanted))∧(rI (((JE name key h).1).had))∧L'=[]):=by
 obtain ⟨rfl,w1,w2,w3,w4⟩:=h_h
 refine JL Tryz.func68 21 [(0,Sr name),(1,U key),(2,.agg #[I h.epoch,U h.root,U h.prev,I h.at_])] rfl (fun w0 G0=>?_)
 refine Je (Jb ?_)
 refine Ju 5 #[I h.epoch,U h.root,U h.prev,I h.at_] 50 (fun b1=>?_)
 refine Ju 6 #[Sr ([]),U 0,I 0,U 0,U 0,I 0,Sl none 0 0,I 0] 52 (fun b2=>?_)
 refine Jc [0] [(0,Sr name),(1,U key),(5,Pt b1 0),(6,Pt b2 0)] (Jd (Ja (Je (Jb ?_))))
 refine Jc [0,0,4,0] [(6,Pt b2 0),(13,.agg #[Sr name,U key,I h.epoch,U h.root,U h.prev,I h.at_,Sl none 0 0,I 0])] ?_
 refine Ju 8 #[Sr ([]),U 0,I 0,U 0,U 0,I 0,Sl none 0 0,I 0] 52 (fun b3=>?_)
 refine Kb [3] [(6,Pt b2 0),(8,Pt b3 0)] [[Sg b3 0 [Sr name,U key,I h.epoch,U h.root,U h.prev,I h.at_,Sl none 0 0,I 0]],[Sg b2 0 [Sr ([]),U 0,I 0,U 0,U 0,I 0,Sl none 0 0,I 0]],[Sg b1 0 [I h.epoch,U h.root,U h.prev,I h.at_]]] (Jd (Ja (Je (Je (Jb ?_)))))
 refine Jc [2] [(6,Pt b2 0),(8,Pt b3 0),(14,.agg #[Sr name,U key,I h.epoch,U h.root,U h.prev,I h.at_,Sl none 0 0,I 0])] ?_
 refine Ji 15 (I (J5 (⟨name,key,h,[],0⟩:KX))) (Vv G [Sr name,U key,I h.epoch,U h.root,U h.prev,I h.at_,Sl none 0 0,I 0] (⟨name,key,h,[],0⟩:KX) (⟨none,0,rfl,hw_name,hw_key,w1,w2,w3,w4,(RS.nil' ES G),(by (simp;done))⟩)) ?_
 refine Jc [0] [(6,Pt b2 0),(8,Pt b3 0),(9,I (J5 (⟨name,key,h,[],0⟩:KX)))] (Jd (Ja ?_))
 refine Jg [0,0] [(6,Pt b2 0),(8,Pt b3 0),(9,I (J5 (⟨name,key,h,[],0⟩:KX))),(17,Bo (!decide (J5 (⟨name,key,h,[],0⟩:KX)=0)))] ?_
 refine Jo (!decide (J5 (⟨name,key,h,[],0⟩:KX)=0)) (fun h1=>?_) (fun h1=>?_)
 try simp only [BB] at h1
 refine Jg [0,0,5,0] [(6,Pt b2 0),(7,I (J5 (⟨name,key,h,[],0⟩:KX)))] (Jk (Jh ?_))
 have hf1:JE name key h=((⟨[],0,(⟨0,0,0,0⟩:JU),[],0⟩:KX),J5 (⟨name,key,h,[],0⟩:KX)):=by
  unfold JE YM WX;simp_all
 refine Jl [1,0] [.agg #[Sr ([]),U 0,I 0,U 0,U 0,I 0,Sl none 0 0,I 0],I (J5 (⟨name,key,h,[],0⟩:KX))] (JY [] (.cons _ (.cons _ (.cons _ .slnil))) (Jt.le_refl _) ?_)
 rw [hf1]
 try dsimp only
 exact ⟨none,0,rfl,(Nat.le_of_ble_eq_true rfl),(by omega),(by omega),(by omega),(by omega),(by omega),(RS.nil' ES G),(by omega),rfl⟩
 try simp only [BB] at h1
 refine Jm (Ja ?_)
 refine WC [2,5,0] [(6,Pt b2 0),(7,I 0)] [[Sg b3 0 [Sr name,U key,I h.epoch,U h.root,U h.prev,I h.at_,Sl none 0 0,I 0]],[Sg b2 0 [Sr name,U key,I h.epoch,U h.root,U h.prev,I h.at_,Sl none 0 0,I 0]],[Sg b1 0 [I h.epoch,U h.root,U h.prev,I h.at_]]] ?_
 refine Jk ?_
 have hf2:JE name key h=((⟨name,key,h,[],0⟩:KX),0):=by
  unfold JE YM WX;simp_all
 refine Jl [1,0] [.agg #[Sr name,U key,I h.epoch,U h.root,U h.prev,I h.at_,Sl none 0 0,I 0],I 0] (JY [] (.cons _ (.cons _ (.cons _ .slnil))) (Jt.le_refl _) ?_)
 rw [hf2]
 try dsimp only
 exact ⟨none,0,rfl,hw_name,hw_key,w1,w2,w3,w4,(RS.nil' ES G),(by omega),rfl⟩
theorem Yj (G:Jt) (vs_o:List Value) (o:KX) (h_o:QI.R G vs_o o) (v:List UInt8) (hw_v:(v).length≤140737488351232) :QE Tryz.prog 107 #[.agg vs_o.toArray,Sr v] G [] (fun u G' L'=>∃ (a1:Option Addr) (c2:Nat),u=.tuple #[.agg #[Sr (((JJ o v).1).name),U (((JJ o v).1).key),I (((JJ o v).1).head.epoch),U (((JJ o v).1).head.root),U (((JJ o v).1).head.prev),I (((JJ o v).1).head.at_),Sl a1 ((((JJ o v).1).wanted).length) c2,I (((JJ o v).1).had)],.agg #[Sr (((JJ o v).2.1).name),Sr (((JJ o v).2.1).value),U (((JJ o v).2.1).n),U (((JJ o v).2.1).tag)],I ((JJ o v).2.2)]∧((((JJ o v).1).name).length≤140737488351232)∧(rU (((JJ o v).1).key))∧(rI (((JJ o v).1).head.epoch))∧(rU (((JJ o v).1).head.root))∧(rU (((JJ o v).1).head.prev))∧(rI (((JJ o v).1).head.at_))∧(RS ES G' a1 c2 (((JJ o v).1).wanted))∧(rI (((JJ o v).1).had))∧((((JJ o v).2.1).name).length≤140737488351232)∧((((JJ o v).2.1).value).length≤140737488351232)∧(rU (((JJ o v).2.1).n))∧(rU (((JJ o v).2.1).tag))∧L'=[]):=by
 obtain ⟨a1,c1,rfl,w1,w2,w3,w4,w5,w6,hs1,w7⟩:=h_o
 refine JL Tryz.func107 52 [(0,(Ko o a1 c1)),(1,Sr v)] rfl (fun w0 G0=>?_)
 refine Je (Jb ?_)
 refine Ju 2 #[Sr o.name,U o.key,I o.head.epoch,U o.head.root,U o.head.prev,I o.head.at_,Sl a1 o.wanted.length c1,I o.had] 52 (fun b1=>?_)
 refine Ju 4 #[Sr ([]),U 0,I 0,U 0,U 0,I 0,Sl none 0 0,I 0] 52 (fun b2=>?_)
 refine Ju 5 #[Sr ([]),Sr ([]),U 0,U 0] 83 (fun b3=>?_)
 refine Jc [0] [(1,Sr v),(2,Pt b1 0),(4,Pt b2 0),(5,Pt b3 0)] (Jd (Ja (Je (Jb ?_))))
 refine Jc [6] [(1,Sr v),(2,Pt b1 0),(4,Pt b2 0),(5,Pt b3 0),(10,(Ko o a1 c1))] ?_
 refine Ji 11 (I (J5 o)) (Vv G (Kt o a1 c1) o (⟨a1,c1,rfl,w1,w2,w3,w4,w5,w6,hs1,w7⟩)) ?_
 refine Jc [0] [(1,Sr v),(2,Pt b1 0),(4,Pt b2 0),(5,Pt b3 0),(7,I (J5 o))] (Jd (Ja (Je (Jy ?_))))
 refine Jg [0,0,0] [(1,Sr v),(2,Pt b1 0),(4,Pt b2 0),(5,Pt b3 0),(7,I (J5 o)),(12,Bo (!decide (J5 o=0)))] ?_
 refine Jo (!decide (J5 o=0)) (fun h1=>?_) (fun h1=>?_)
 try simp only [BB] at h1
 refine Jg [0,0,0,5,3,0] [(4,Pt b2 0),(5,Pt b3 0),(6,I (J5 o))] (Jk (Js (Jh ?_)))
 have hf1:JJ o v=((⟨[],0,(⟨0,0,0,0⟩:JU),[],0⟩:KX),(⟨[],[],0,0⟩:W6),J5 o):=by
  unfold JJ ZH YM Jga WX;simp_all
 refine Jl [1,0,0] [.agg #[Sr ([]),U 0,I 0,U 0,U 0,I 0,Sl none 0 0,I 0],.agg #[Sr ([]),Sr ([]),U 0,U 0],I (J5 o)] (JY [] (.cons _ (.cons _ (.cons _ .slnil))) (Jt.le_refl _) ?_)
 rw [hf1]
 try dsimp only
 exact ⟨none,0,rfl,(Nat.le_of_ble_eq_true rfl),(by omega),(by omega),(by omega),(by omega),(by omega),(RS.nil' ES G),(by omega),(Nat.le_of_ble_eq_true rfl),(Nat.le_of_ble_eq_true rfl),(by omega),(by omega),rfl⟩
 try simp only [BB] at h1
 refine Je (Jb ?_)
 refine Jc [0] [(1,Sr v),(2,Pt b1 0),(4,Pt b2 0),(5,Pt b3 0),(19,Sr v)] ?_
 refine Ji 20 (Bo (Wf v)) (Ja1 G v) ?_
 refine Jc [0] [(1,Sr v),(2,Pt b1 0),(4,Pt b2 0),(5,Pt b3 0),(18,Bo (Wf v))] (Jd (Ja ?_))
 refine Jo (Wf v) (fun h2=>?_) (fun h2=>?_)
 try simp only [BB] at h2
 refine Jg [0,0,5,3,0] [(4,Pt b2 0),(5,Pt b3 0),(6,I 2)] (Jk (Js (Jh ?_)))
 have hf2:JJ o v=((⟨[],0,(⟨0,0,0,0⟩:JU),[],0⟩:KX),(⟨[],[],0,0⟩:W6),2):=by
  unfold JJ ZH YM Jga WX;simp_all
 refine Jl [1,0,0] [.agg #[Sr ([]),U 0,I 0,U 0,U 0,I 0,Sl none 0 0,I 0],.agg #[Sr ([]),Sr ([]),U 0,U 0],I 2] (JY [] (.cons _ (.cons _ (.cons _ .slnil))) (Jt.le_refl _) ?_)
 rw [hf2]
 try dsimp only
 exact ⟨none,0,rfl,(Nat.le_of_ble_eq_true rfl),(by omega),(by omega),(by omega),(by omega),(by omega),(RS.nil' ES G),(by omega),(Nat.le_of_ble_eq_true rfl),(Nat.le_of_ble_eq_true rfl),(by omega),(by omega),rfl⟩
 try simp only [BB] at h2
 refine Jg [0,6,0,0,0] [(1,Sr v),(2,Pt b1 0),(4,Pt b2 0),(5,Pt b3 0),(23,Bo (decide ((o.wanted.length:Int)=30)))] ?_
 refine Jo (decide ((o.wanted.length:Int)=30)) (fun h3=>?_) (fun h3=>?_)
 try simp only [BB] at h3
 refine Jg [0,0,5,3,0] [(4,Pt b2 0),(5,Pt b3 0),(6,I 7)] (Jk (Js (Jh ?_)))
 have hf3:JJ o v=((⟨[],0,(⟨0,0,0,0⟩:JU),[],0⟩:KX),(⟨[],[],0,0⟩:W6),7):=by
  unfold JJ ZH YM Jga WX;simp_all
 refine Jl [1,0,0] [.agg #[Sr ([]),U 0,I 0,U 0,U 0,I 0,Sl none 0 0,I 0],.agg #[Sr ([]),Sr ([]),U 0,U 0],I 7] (JY [] (.cons _ (.cons _ (.cons _ .slnil))) (Jt.le_refl _) ?_)
 rw [hf3]
 try dsimp only
 exact ⟨none,0,rfl,(Nat.le_of_ble_eq_true rfl),(by omega),(by omega),(by omega),(by omega),(by omega),(RS.nil' ES G),(by omega),(Nat.le_of_ble_eq_true rfl),(Nat.le_of_ble_eq_true rfl),(by omega),(by omega),rfl⟩
 try simp only [BB] at h3
 refine Jm (JK (Ja (Je (Jb ?_))))
 refine Jc [0,6,0,6,0,0,6,0,0] [(1,Sr v),(2,Pt b1 0),(4,Pt b2 0),(5,Pt b3 0),(32,U o.key),(34,Sr o.name),(35,Sr v),(39,U (IntKind.u64.wrap (o.wanted.length:Int)))] ?_
 have e1:IntKind.u64.wrap (o.wanted.length:Int)=(o.wanted.length:Int):=IntWalk.u64_in _ (by (have q_:=K1.1 ‹_›;omega))
 refine J2 (fr':=[(1,Sr v),(2,Pt b1 0),(4,Pt b2 0),(5,Pt b3 0),(32,U o.key),(34,Sr o.name),(35,Sr v),(39,U (o.wanted.length:Int))]) (L':=[[Sg b3 0 [Sr ([]),Sr ([]),U 0,U 0]],[Sg b2 0 [Sr ([]),U 0,I 0,U 0,U 0,I 0,Sl none 0 0,I 0]],[Sg b1 0 [Sr o.name,U o.key,I o.head.epoch,U o.head.root,U o.head.prev,I o.head.at_,Sl a1 o.wanted.length c1,I o.had]]]) (by simp only [Jfc,Kt,JfZ,Ko,e1];first | done | rfl) (by rfl) ?_
 clear e1
 refine JN 40 (Jhe G o.key o.name ‹_› v ‹_› (o.wanted.length:Int) (by (have q_:=K1.1 ‹_›;omega))) (fun v G1 L1 hl1 hp=>?_)
 obtain ⟨rfl,w8,w9,w10,w11,rfl⟩:=hp
 refine Jc [0,0,0] [(1,Sr v),(2,Pt b1 0),(4,Pt b2 0),(5,Pt b3 0),(41,(JfZ (WG o.key o.name v (o.wanted.length:Int)).1)),(42,I ((WG o.key o.name v (o.wanted.length:Int)).2))] ?_
 refine Ju 8 #[Sr ([]),Sr ([]),U 0,U 0] 83 (fun b4=>?_)
 refine Kb [3,0] [(1,Sr v),(2,Pt b1 0),(4,Pt b2 0),(5,Pt b3 0),(8,Pt b4 0)] [[Sg b4 0 (Jfc (WG o.key o.name v (o.wanted.length:Int)).1)],[Sg b3 0 [Sr ([]),Sr ([]),U 0,U 0]],[Sg b2 0 [Sr ([]),U 0,I 0,U 0,U 0,I 0,Sl none 0 0,I 0]],[Sg b1 0 (Kt o a1 c1)]] (Jd (Ja (Je (Jb ?_))))
 refine Jc [0,8] [(1,Sr v),(2,Pt b1 0),(4,Pt b2 0),(5,Pt b3 0),(8,Pt b4 0),(44,Sl a1 o.wanted.length c1)] ?_
 refine JN 45 (JeH G1 a1 c1 o.wanted (hs1.mono hl1)) (fun v G2 L1 hl2 hp=>?_)
 obtain ⟨a2,c2,_,rfl,hr1,rfl⟩:=hp
 refine Jc [0] [(2,Pt b1 0),(4,Pt b2 0),(5,Pt b3 0),(8,Pt b4 0),(45,Sl a2 o.wanted.length c2),(46,Sr v)] ?_
 refine KC 47 1 #[Sr v] 9 (fun b5=>?_)
 refine QC (b:=b5) (cs:=[Sr v]) 48 9 1 0 (E:=ES) v hr1 ⟨rfl,‹_›⟩ (by have q_:=K1.1 ‹_›;(try simp only [ES,List.length_append,List.length_cons,List.length_nil]);omega) (by have q_:=K1.1 ‹_›;(try simp only [ES,List.length_append,List.length_cons,List.length_nil]);omega) (fun a3 c3 r2 hr2=>?_)
 refine Kb [0,13] [(2,Pt b1 0),(4,Pt b2 0),(5,Pt b3 0),(8,Pt b4 0)] [[Sg b5 0 [Sr v]],r2,[Sg b4 0 (Jfc (WG o.key o.name v (o.wanted.length:Int)).1)],[Sg b3 0 [Sr ([]),Sr ([]),U 0,U 0]],[Sg b2 0 [Sr ([]),U 0,I 0,U 0,U 0,I 0,Sl none 0 0,I 0]],[Sg b1 0 (Kt (⟨o.name,o.key,o.head,(o.wanted++[v]),o.had⟩:KX) a3 c3)]] (Jd (Ja (Je ?_)))
 refine Kw [2,3] ?_
 refine Wa [(0,(Ko (⟨o.name,o.key,o.head,(o.wanted++[v]),o.had⟩:KX) a3 c3)),(1,(JfZ (WG o.key o.name v (o.wanted.length:Int)).1))] ?_
 refine JZ [] [(0,12),(1,6)] [] [2] (List.forall_mem_nil _) (List.forall_mem_cons.2 ⟨?_,List.forall_mem_nil _⟩)
 refine JO 2 [(4,Pt b2 0),(50,(Ko (⟨o.name,o.key,o.head,(o.wanted++[v]),o.had⟩:KX) a3 c3))] (fun X=>?_)
 refine KQ 4 [[Sg b5 0 [Sr v]],r2,[Sg b4 0 (Jfc (WG o.key o.name v (o.wanted.length:Int)).1)],[Sg b3 0 [Sr ([]),Sr ([]),U 0,U 0]],[Sg b2 0 (Kt (⟨o.name,o.key,o.head,(o.wanted++[v]),o.had⟩:KX) a3 c3)],[Sg b1 0 (Kt (⟨o.name,o.key,o.head,(o.wanted++[v]),o.had⟩:KX) a3 c3)]] ?_
 refine Kj [] ?_
 refine JZ [0] [(1,6)] [] [3] (List.forall_mem_nil _) (List.forall_mem_cons.2 ⟨?_,List.forall_mem_nil _⟩)
 refine JO 3 [(5,Pt b3 0),(51,(JfZ (WG o.key o.name v (o.wanted.length:Int)).1))] (fun X=>?_)
 refine KQ 3 [[Sg b5 0 [Sr v]],r2,[Sg b4 0 (Jfc (WG o.key o.name v (o.wanted.length:Int)).1)],[Sg b3 0 (Jfc (WG o.key o.name v (o.wanted.length:Int)).1)],[Sg b2 0 (Kt (⟨o.name,o.key,o.head,(o.wanted++[v]),o.had⟩:KX) a3 c3)],[Sg b1 0 (Kt (⟨o.name,o.key,o.head,(o.wanted++[v]),o.had⟩:KX) a3 c3)]] ?_
 refine Kj [(4,I 0)] ?_
 refine Kv [0,1] [(4,0)] [] [(4,Pt b2 0),(5,Pt b3 0),(6,I 0)] (List.forall_mem_nil _) ?_
 refine Ja (Jk ?_)
 refine We (E:=ES) 1 hr2 (by have q_:=K1.1 ‹_›;(try simp only [ES,List.length_append,List.length_cons,List.length_nil]);omega) (fun G3 hl3 hs2=>?_)
 have hf4:JJ o v=((⟨o.name,o.key,o.head,o.wanted++[v],o.had⟩:KX),((WG o.key o.name v (o.wanted.length:Int)).1),0):=by
  unfold JJ ZH YM Jga WX;simp_all
 refine Jl [4,3,0] [(Ko (⟨o.name,o.key,o.head,(o.wanted++[v]),o.had⟩:KX) a3 c3),(JfZ (WG o.key o.name v (o.wanted.length:Int)).1),I 0] (JY [] (.cons _ (.cons _ (.cons _ (.cons _ (.cons _ (.cons _ .slnil)))))) (Jt.le_trans (Jt.le_trans hl1 hl2) hl3) ?_)
 rw [hf4]
 try dsimp only
 exact ⟨a3,c3,rfl,‹_›,‹_›,‹_›,‹_›,‹_›,‹_›,hs2,‹_›,w8,w9,w10,w11,rfl⟩
end Go.Proofs.YtnnlpbjdignhaaaGreatDoor
