import Derived.Test.YtnnlpbjdignhaaaGreatDoorTcHeadN
namespace Go.Proofs.YtnnlpbjdignhaaaGreatDoor
open Go.Tx
set_option linter.unusedVariables false
set_option linter.unusedSimpArgs false
def Y2:KP:=⟨[],0,WY,[],0⟩
def Wp (s:List UInt8):Bool:=decide (s.length > 20)
def J5 (o:KP):Int:=if Kt o.name=false then 3 else if JD o.head ≠ 0 then JD o.head else if 30<(o.wanted.length:Int)∨(o.wanted.any fun x0=>Wp x0)=true then 2 else if o.had<0∨(o.wanted.length:Int)<o.had then 4 else 0
def JF (name:List UInt8) (key:Int) (h:JR):KP×Int:=if J5 ⟨name,key,h,[],0⟩ ≠ 0 then (Y2,J5 ⟨name,key,h,[],0⟩) else (⟨name,key,h,[],0⟩,0)
def ZP (o:KP) (v:List UInt8):Int:=if J5 o ≠ 0 then J5 o else if Wp v=true then 2 else if (o.wanted.length:Int)=30 then 7 else 0
def JE (o:KP) (v:List UInt8):KP×WT×Int:=if ZP o v ≠ 0 then (Y2,JgS,ZP o v) else (⟨o.name,o.key,o.head,o.wanted++[v],o.had⟩,(WQ o.key o.name v o.wanted.length).1,0)
theorem KZ {o:KP}:J5 o=0 ↔ Kt o.name=true∧JD o.head=0∧o.wanted.length≤30∧(∀ s∈o.wanted,s.length≤20)∧0≤o.had∧o.had≤o.wanted.length:=by
 unfold J5
 have e:(o.wanted.any fun x0=>Wp x0)=true ↔ ¬ ∀ s∈o.wanted,s.length≤20:=by
  rw [List.any_eq_true]
  unfold Wp
  constructor
  ·
   rintro ⟨x,hx,h⟩ hc
   have:=hc x hx
   simp at h;omega
  ·
   intro h
   apply Classical.byContradiction
   intro hc
   refine h fun s hs=>?_
   apply Classical.byContradiction
   intro h2
   exact hc ⟨s,hs,by simp;omega⟩
 cases hn:Kt o.name with
 | false=>simp
 | true =>
  rw [if_neg (by simp)]
  by_cases h1:JD o.head=0
  ·
   rw [if_neg (by omega)]
   by_cases h2:30<(o.wanted.length:Int)∨(o.wanted.any fun x0=>Wp x0)=true
   ·
    rw [if_pos h2]
    constructor
    ·
     intro h;cases h
    ·
     rintro ⟨_,_,h3,h4,_⟩
     rcases h2 with h2 | h2
     ·
      omega
     ·
      exact absurd h4 (e.1 h2)
   ·
    rw [if_neg h2]
    have h3:o.wanted.length≤30:=Nat.le_of_not_lt fun h=>h2 (.inl (by omega))
    have h4:∀ s∈o.wanted,s.length≤20:=Decidable.not_not.1 fun h=>h2 (.inr (e.2 h))
    split
    ·
     constructor
     ·
      intro h;cases h
     ·
      rintro ⟨_,_,_,_,_,_⟩;omega
    ·
     exact ⟨fun _=>⟨rfl,h1,h3,h4,by omega,by omega⟩,fun _=>rfl⟩
  ·
   rw [if_pos h1]
   exact ⟨fun h=>absurd h h1,fun h=>absurd h.2.1 h1⟩
theorem Vo {o:KP} {v:List UInt8} (h:(JE o v).2.2=0):J5 o=0∧v.length≤20∧o.wanted.length<30∧JE o v=(⟨o.name,o.key,o.head,o.wanted++[v],o.had⟩,⟨o.name,v,o.wanted.length,YO o.key (Q9 o.name v o.wanted.length)⟩,0)∧J5 (JE o v).1=0∧ZH o.key (JE o v).2.1=true∧(JE o v).1.key=o.key∧(JE o v).2.1.n=o.wanted.length∧(JE o v).1.wanted.length=o.wanted.length+1:=by
 have key:J5 o=0∧Wp v=false∧¬ (o.wanted.length:Int)=30:=by
  unfold JE at h
  split at h
  ·
   contradiction
  ·
   rename_i h1
   unfold ZP at h1
   by_cases e1:J5 o=0
   ·
    rw [if_neg (by omega)] at h1
    by_cases e2:Wp v=true
    ·
     rw [if_pos e2] at h1;omega
    ·
     rw [if_neg e2] at h1
     by_cases e3:(o.wanted.length:Int)=30
     ·
      rw [if_pos e3] at h1;omega
     ·
      exact ⟨e1,by simpa using e2,e3⟩
   ·
    rw [if_pos e1] at h1;omega
 obtain ⟨e1,e2,e3⟩:=key
 have hi:=KZ.1 e1
 have hv:v.length≤20:=by unfold Wp at e2;simp at e2;omega
 have hE:ZP o v=0:=by unfold ZP;rw [if_neg (by omega),if_neg (by rw [e2];simp),if_neg e3]
 have hr:Qh o.name v=0:=by unfold Qh;rw [if_neg (by rw [hi.1];simp),if_neg (by omega)]
 have ht:WQ o.key o.name v o.wanted.length=(⟨o.name,v,o.wanted.length,YO o.key (Q9 o.name v o.wanted.length)⟩,0):=by unfold WQ;rw [if_neg (by omega)]
 have hw:JE o v=(⟨o.name,o.key,o.head,o.wanted++[v],o.had⟩,⟨o.name,v,o.wanted.length,YO o.key (Q9 o.name v o.wanted.length)⟩,0):=by
  unfold JE;rw [if_neg (by omega),ht]
 refine ⟨e1,hv,by omega,hw,?_,?_,?_,?_,?_⟩ <;> rw [hw] <;> simp only
 ·
  rw [KZ]
  refine ⟨hi.1,hi.2.1,by simp;omega,fun s hs=>?_,hi.2.2.2.2.1,by simp;omega⟩
  rcases List.mem_append.1 hs with hs | hs
  ·
   exact hi.2.2.2.1 s hs
  ·
   rw [List.mem_singleton.1 hs];exact hv
 ·
  unfold ZH;simp [hr]
 ·
  simp
theorem Jbs (G:Jt) (s:List UInt8) :QF Tryz.prog 44 #[Sr s] G [] (fun u G' L'=>u=Bo (Wp s)):=by
 refine JJ Tryz.func44 6 [(0,Sr s)] rfl (fun w0 G0=>?_)
 refine Jg [0] [(0,Sr s)] (Jg [0,0,0,0] [(2,Bo (decide (((s).length:Int) > 20)))] (Jk (Jl [0] [Bo (decide (((s).length:Int) > 20))] (Jv (Jt.le_refl _) ?_))))
 have hf_:(Wp s)=(decide (((s).length:Int) > 20)):=by
  unfold Wp;rw [Bool.eq_iff_iff];simp;omega
 · (try rw [hf_]);(simp only [JL];done)
theorem VM (G:Jt) (vs_o:List Value) (o:KP) (h_o:QO.R G vs_o o) :QF Tryz.prog 13 #[.agg vs_o.toArray] G [] (fun u G' L'=>u=I (J5 o)):=by
 obtain ⟨a1,c1,rfl,_,_,_,_,_,_,hs1,_⟩:=h_o
 refine JJ Tryz.func13 36 [(0,(Ko o a1 c1))] rfl (fun w0 G0=>?_)
 refine Je (Jb (Ju 1 #[Sr o.name,U o.key,I o.head.epoch,U o.head.root,U o.head.prev,I o.head.at_,Sl a1 o.wanted.length c1,I o.had] 52 (fun b1=>Jd [0] [(1,Pt b1 0)] (Jc (Ja (Je (Je (Jb (Jd [0,2] [(1,Pt b1 0),(5,Sr o.name)] (Ji 6 (Bo (Kt o.name)) (Zk G o.name) (Jd [0] [(1,Pt b1 0),(7,Bo (!(Kt o.name)))] (Jc (Ja (Jo (!(Kt o.name)) (fun h1=>?_) (fun h1=>?_)))))))))))))))
 try simp only [BB] at h1
 refine Jg [0] [(2,I 3)] (Jk (Jh (Jl [0] [I 3] (Jv (Jt.le_refl _) ?_))))
 have hf_:(J5 o)=3:=by
  unfold J5;(rw [if_pos (by simp_all)];done)
 · (try rw [hf_]);(simp only [JL];done)
 try simp only [BB] at h1
 refine Jm (Ja (Je (Je (Jb (Jd [0,2] [(1,Pt b1 0),(9,.agg #[I o.head.epoch,U o.head.root,U o.head.prev,I o.head.at_])] (Ji 10 (I (JD o.head)) (Zv o.head G) (Jd [0] [(1,Pt b1 0),(3,I (JD o.head))] (Jc (Ja (Jg [0,0] [(1,Pt b1 0),(3,I (JD o.head)),(12,Bo (!decide (JD o.head=0)))] (Jo (!decide (JD o.head=0)) (fun h2=>?_) (fun h2=>?_))))))))))))
 try simp only [BB] at h2
 refine Jg [0,0] [(2,I (JD o.head))] (Jk (Jh (Jl [0] [I (JD o.head)] (Jv (Jt.le_refl _) ?_))))
 have hf_:(J5 o)=(JD o.head):=by
  unfold J5;(rw [if_neg (by simp_all),if_pos (by omega)];done)
 · (try rw [hf_]);(simp only [JL];done)
 try simp only [BB] at h2
 refine Jm (Ja (Je (Jz (Je (Jb (Jd [0,2,0,0,0] [(1,Pt b1 0),(19,Bo (decide ((o.wanted.length:Int) > 30)))] (Wd (fun bb=>[(1,Pt b1 0),(19,Bo bb)]) (decide ((o.wanted.length:Int) > 30)) (fun h3=>?_) (fun h3=>?_))))))))
 try simp only [BB] at h3
 refine Jd [1,1,1,0,0] [(1,Pt b1 0),(14,Bo true)] (Jc (Ja (JZ (Jg [0] [(2,I 2)] (Jk (Js (Jh (Jl [0] [I 2] (Jv (Jt.le_refl _) ?_)))))))))
 have hf_:(J5 o)=2:=by
  unfold J5;(rw [if_neg (by simp_all),if_neg (by omega)];(rw [if_pos (by simp_all)];done))
 · (try rw [hf_]);(simp only [JL];done)
 try simp only [BB] at h3
 refine Jd [0,2] [(1,Pt b1 0),(19,Bo false),(21,Sl a1 o.wanted.length c1)] (Ji 22 (Bo (o.wanted.any (fun x0=>Wp x0))) (Jmp G a1 c1 o.wanted hs1 44 #[] (fun x0=>Wp x0) (fun _ _=>by kernel_rfl) (fun x0 hx0=>Jbs G x0)) (Jd [0,0] [(1,Pt b1 0),(14,Bo (o.wanted.any (fun x0=>Wp x0)))] (Jc (Ja (Jo (o.wanted.any (fun x0=>Wp x0)) (fun h4=>?_) (fun h4=>?_))))))
 try simp only [BB] at h4
 refine Jg [0] [(2,I 2)] (Jk (Js (Jh (Jl [0] [I 2] (Jv (Jt.le_refl _) ?_)))))
 have hf_:(J5 o)=2:=by
  unfold J5;(rw [if_neg (by simp_all),if_neg (by omega)];(rw [if_pos (by simp_all)];done))
 · (try rw [hf_]);(simp only [JL];done)
 try simp only [BB] at h4
 refine Je (Jb (Jd [0,2,0,0] [(1,Pt b1 0),(28,Bo (decide (o.had<0)))] (KD (decide (o.had<0)) (fun bb=>[(1,Pt b1 0),(28,Bo bb)]) [1,1,1,1,1,1,0] [0,2,0,2,0,0,0] (fun bb=>[(35,Bo (bb || (decide (o.had > (o.wanted.length:Int)))))]) (Jd [0] [(24,Bo ((decide (o.had<0)) || (decide (o.had > (o.wanted.length:Int)))))] (Jc (Ja (Jo ((decide (o.had<0)) || (decide (o.had > (o.wanted.length:Int)))) (fun h5=>?_) (fun h5=>?_))))))))
 try simp only [BB] at h5
 refine Jg [0] [(2,I 4)] (Jk (Js (Jh (Jl [0] [I 4] (Jv (Jt.le_refl _) ?_)))))
 have hf_:(J5 o)=4:=by
  unfold J5;(rw [if_neg (by simp_all),if_neg (by omega)];(rw [if_neg (by simp_all),if_pos (by omega)];done))
 · (try rw [hf_]);(simp only [JL];done)
 try simp only [BB] at h5
 refine Jm (JM (Ja (Jg [0] [(2,I 0)] (Jk (Jl [0] [I 0] (Jv (Jt.le_refl _) ?_))))))
 have hf_:(J5 o)=0:=by
  unfold J5;(rw [if_neg (by simp_all),if_neg (by omega)];(rw [if_neg (by simp_all),if_neg (by omega)];done))
 · (try rw [hf_]);(simp only [JL];done)
theorem Jb4 (G:Jt) (name:List UInt8) (hw_name:(name).length≤140737488351232) (key:Int) (hw_key:rU key) (vs_h:List Value) (h:JR) (h_h:KE.R G vs_h h) :QF Tryz.prog 68 #[Sr name,U key,.agg vs_h.toArray] G [] (fun u G' L'=>∃ (a1:Option Addr) (c2:Nat),u=.tuple #[.agg #[Sr (((JF name key h).1).name),U (((JF name key h).1).key),I (((JF name key h).1).head.epoch),U (((JF name key h).1).head.root),U (((JF name key h).1).head.prev),I (((JF name key h).1).head.at_),Sl a1 ((((JF name key h).1).wanted).length) c2,I (((JF name key h).1).had)],I ((JF name key h).2)]∧((((JF name key h).1).name).length≤140737488351232)∧(rU (((JF name key h).1).key))∧(rI (((JF name key h).1).head.epoch))∧(rU (((JF name key h).1).head.root))∧(rU (((JF name key h).1).head.prev))∧(rI (((JF name key h).1).head.at_))∧(RS ES G' a1 c2 (((JF name key h).1).wanted))∧(rI (((JF name key h).1).had))∧L'=[]):=by
 obtain ⟨rfl,w1,w2,w3,w4⟩:=h_h
 refine JJ Tryz.func68 21 [(0,Sr name),(1,U key),(2,.agg #[I h.epoch,U h.root,U h.prev,I h.at_])] rfl (fun w0 G0=>?_)
 refine Je (Jb (Ju 5 #[I h.epoch,U h.root,U h.prev,I h.at_] 50 (fun b1=>Ju 6 #[Sr ([]),U 0,I 0,U 0,U 0,I 0,Sl none 0 0,I 0] 52 (fun b2=>Jd [0] [(0,Sr name),(1,U key),(5,Pt b1 0),(6,Pt b2 0)] (Jc (Ja (Je (Jb (Jd [0,0,4,0] [(6,Pt b2 0),(13,.agg #[Sr name,U key,I h.epoch,U h.root,U h.prev,I h.at_,Sl none 0 0,I 0])] (Ju 8 #[Sr ([]),U 0,I 0,U 0,U 0,I 0,Sl none 0 0,I 0] 52 (fun b3=>Kd [3] [(6,Pt b2 0),(8,Pt b3 0)] [[Sg b3 0 [Sr name,U key,I h.epoch,U h.root,U h.prev,I h.at_,Sl none 0 0,I 0]],[Sg b2 0 [Sr ([]),U 0,I 0,U 0,U 0,I 0,Sl none 0 0,I 0]],[Sg b1 0 [I h.epoch,U h.root,U h.prev,I h.at_]]] (Jc (Ja (Je (Je (Jb (Jd [2] [(6,Pt b2 0),(8,Pt b3 0),(14,.agg #[Sr name,U key,I h.epoch,U h.root,U h.prev,I h.at_,Sl none 0 0,I 0])] (Ji 15 (I (J5 (⟨name,key,h,[],0⟩:KP))) (VM G [Sr name,U key,I h.epoch,U h.root,U h.prev,I h.at_,Sl none 0 0,I 0] (⟨name,key,h,[],0⟩:KP) (⟨none,0,rfl,hw_name,hw_key,w1,w2,w3,w4,(RS.nil' ES G),(by (simp;done))⟩)) (Jd [0] [(6,Pt b2 0),(8,Pt b3 0),(9,I (J5 (⟨name,key,h,[],0⟩:KP)))] (Jc (Ja (Jg [0,0] [(6,Pt b2 0),(8,Pt b3 0),(9,I (J5 (⟨name,key,h,[],0⟩:KP))),(17,Bo (!decide (J5 (⟨name,key,h,[],0⟩:KP)=0)))] ?_))))))))))))))))))))))
 refine Jo (!decide (J5 (⟨name,key,h,[],0⟩:KP)=0)) (fun h1=>?_) (fun h1=>?_)
 try simp only [BB] at h1
 refine Jg [0,0,5,0] [(6,Pt b2 0),(7,I (J5 (⟨name,key,h,[],0⟩:KP)))] (Jk (Jh ?_))
 have hf1:JF name key h=((⟨[],0,(⟨0,0,0,0⟩:JR),[],0⟩:KP),J5 (⟨name,key,h,[],0⟩:KP)):=by
  unfold JF Y2 WY;simp_all
 refine Jl [1,0] [.agg #[Sr ([]),U 0,I 0,U 0,U 0,I 0,Sl none 0 0,I 0],I (J5 (⟨name,key,h,[],0⟩:KP))] (JY [] (.cons _ (.cons _ (.cons _ .slnil))) (Jt.le_refl _) ?_)
 rw [hf1]
 try dsimp only
 exact ⟨none,0,rfl,(Nat.le_of_ble_eq_true rfl),(by omega),(by omega),(by omega),(by omega),(by omega),(RS.nil' ES G),(by omega),rfl⟩
 try simp only [BB] at h1
 refine Jm (Ja (WM [2,5,0] [(6,Pt b2 0),(7,I 0)] [[Sg b3 0 [Sr name,U key,I h.epoch,U h.root,U h.prev,I h.at_,Sl none 0 0,I 0]],[Sg b2 0 [Sr name,U key,I h.epoch,U h.root,U h.prev,I h.at_,Sl none 0 0,I 0]],[Sg b1 0 [I h.epoch,U h.root,U h.prev,I h.at_]]] (Jk ?_)))
 have hf2:JF name key h=((⟨name,key,h,[],0⟩:KP),0):=by
  unfold JF Y2 WY;simp_all
 refine Jl [1,0] [.agg #[Sr name,U key,I h.epoch,U h.root,U h.prev,I h.at_,Sl none 0 0,I 0],I 0] (JY [] (.cons _ (.cons _ (.cons _ .slnil))) (Jt.le_refl _) ?_)
 rw [hf2]
 try dsimp only
 exact ⟨none,0,rfl,hw_name,hw_key,w1,w2,w3,w4,(RS.nil' ES G),(by omega),rfl⟩
theorem Yt (G:Jt) (vs_o:List Value) (o:KP) (h_o:QO.R G vs_o o) (v:List UInt8) (hw_v:(v).length≤140737488351232) :QF Tryz.prog 107 #[.agg vs_o.toArray,Sr v] G [] (fun u G' L'=>∃ (a1:Option Addr) (c2:Nat),u=.tuple #[.agg #[Sr (((JE o v).1).name),U (((JE o v).1).key),I (((JE o v).1).head.epoch),U (((JE o v).1).head.root),U (((JE o v).1).head.prev),I (((JE o v).1).head.at_),Sl a1 ((((JE o v).1).wanted).length) c2,I (((JE o v).1).had)],.agg #[Sr (((JE o v).2.1).name),Sr (((JE o v).2.1).value),U (((JE o v).2.1).n),U (((JE o v).2.1).tag)],I ((JE o v).2.2)]∧((((JE o v).1).name).length≤140737488351232)∧(rU (((JE o v).1).key))∧(rI (((JE o v).1).head.epoch))∧(rU (((JE o v).1).head.root))∧(rU (((JE o v).1).head.prev))∧(rI (((JE o v).1).head.at_))∧(RS ES G' a1 c2 (((JE o v).1).wanted))∧(rI (((JE o v).1).had))∧((((JE o v).2.1).name).length≤140737488351232)∧((((JE o v).2.1).value).length≤140737488351232)∧(rU (((JE o v).2.1).n))∧(rU (((JE o v).2.1).tag))∧L'=[]):=by
 obtain ⟨a1,c1,rfl,w1,w2,w3,w4,w5,w6,hs1,w7⟩:=h_o
 refine JJ Tryz.func107 52 [(0,(Ko o a1 c1)),(1,Sr v)] rfl (fun w0 G0=>?_)
 refine Je (Jb (Ju 2 #[Sr o.name,U o.key,I o.head.epoch,U o.head.root,U o.head.prev,I o.head.at_,Sl a1 o.wanted.length c1,I o.had] 52 (fun b1=>Ju 4 #[Sr ([]),U 0,I 0,U 0,U 0,I 0,Sl none 0 0,I 0] 52 (fun b2=>Ju 5 #[Sr ([]),Sr ([]),U 0,U 0] 83 (fun b3=>Jd [0] [(1,Sr v),(2,Pt b1 0),(4,Pt b2 0),(5,Pt b3 0)] (Jc (Ja (Je (Jb (Jd [6] [(1,Sr v),(2,Pt b1 0),(4,Pt b2 0),(5,Pt b3 0),(10,(Ko o a1 c1))] (Ji 11 (I (J5 o)) (VM G (Kv o a1 c1) o (⟨a1,c1,rfl,w1,w2,w3,w4,w5,w6,hs1,w7⟩)) (Jd [0] [(1,Sr v),(2,Pt b1 0),(4,Pt b2 0),(5,Pt b3 0),(7,I (J5 o))] (Jc (Ja (Je (Jz (Jg [0,0,0] [(1,Sr v),(2,Pt b1 0),(4,Pt b2 0),(5,Pt b3 0),(7,I (J5 o)),(12,Bo (!decide (J5 o=0)))] (Jo (!decide (J5 o=0)) (fun h1=>?_) (fun h1=>?_)))))))))))))))))))
 try simp only [BB] at h1
 refine Jg [0,0,0,5,3,0] [(4,Pt b2 0),(5,Pt b3 0),(6,I (J5 o))] (Jk (Js (Jh ?_)))
 have hf1:JE o v=((⟨[],0,(⟨0,0,0,0⟩:JR),[],0⟩:KP),(⟨[],[],0,0⟩:WT),J5 o):=by
  unfold JE ZP Y2 JgS WY;simp_all
 refine Jl [1,0,0] [.agg #[Sr ([]),U 0,I 0,U 0,U 0,I 0,Sl none 0 0,I 0],.agg #[Sr ([]),Sr ([]),U 0,U 0],I (J5 o)] (JY [] (.cons _ (.cons _ (.cons _ .slnil))) (Jt.le_refl _) ?_)
 rw [hf1]
 try dsimp only
 exact ⟨none,0,rfl,(Nat.le_of_ble_eq_true rfl),(by omega),(by omega),(by omega),(by omega),(by omega),(RS.nil' ES G),(by omega),(Nat.le_of_ble_eq_true rfl),(Nat.le_of_ble_eq_true rfl),(by omega),(by omega),rfl⟩
 try simp only [BB] at h1
 refine Je (Jb (Jd [0] [(1,Sr v),(2,Pt b1 0),(4,Pt b2 0),(5,Pt b3 0),(19,Sr v)] (Ji 20 (Bo (Wp v)) (Jbs G v) (Jd [0] [(1,Sr v),(2,Pt b1 0),(4,Pt b2 0),(5,Pt b3 0),(18,Bo (Wp v))] (Jc (Ja (Jo (Wp v) (fun h2=>?_) (fun h2=>?_))))))))
 try simp only [BB] at h2
 refine Jg [0,0,5,3,0] [(4,Pt b2 0),(5,Pt b3 0),(6,I 2)] (Jk (Js (Jh ?_)))
 have hf2:JE o v=((⟨[],0,(⟨0,0,0,0⟩:JR),[],0⟩:KP),(⟨[],[],0,0⟩:WT),2):=by
  unfold JE ZP Y2 JgS WY;simp_all
 refine Jl [1,0,0] [.agg #[Sr ([]),U 0,I 0,U 0,U 0,I 0,Sl none 0 0,I 0],.agg #[Sr ([]),Sr ([]),U 0,U 0],I 2] (JY [] (.cons _ (.cons _ (.cons _ .slnil))) (Jt.le_refl _) ?_)
 rw [hf2]
 try dsimp only
 exact ⟨none,0,rfl,(Nat.le_of_ble_eq_true rfl),(by omega),(by omega),(by omega),(by omega),(by omega),(RS.nil' ES G),(by omega),(Nat.le_of_ble_eq_true rfl),(Nat.le_of_ble_eq_true rfl),(by omega),(by omega),rfl⟩
 try simp only [BB] at h2
 refine Jg [0,6,0,0,0] [(1,Sr v),(2,Pt b1 0),(4,Pt b2 0),(5,Pt b3 0),(23,Bo (decide ((o.wanted.length:Int)=30)))] (Jo (decide ((o.wanted.length:Int)=30)) (fun h3=>?_) (fun h3=>?_))
 try simp only [BB] at h3
 refine Jg [0,0,5,3,0] [(4,Pt b2 0),(5,Pt b3 0),(6,I 7)] (Jk (Js (Jh ?_)))
 have hf3:JE o v=((⟨[],0,(⟨0,0,0,0⟩:JR),[],0⟩:KP),(⟨[],[],0,0⟩:WT),7):=by
  unfold JE ZP Y2 JgS WY;simp_all
 refine Jl [1,0,0] [.agg #[Sr ([]),U 0,I 0,U 0,U 0,I 0,Sl none 0 0,I 0],.agg #[Sr ([]),Sr ([]),U 0,U 0],I 7] (JY [] (.cons _ (.cons _ (.cons _ .slnil))) (Jt.le_refl _) ?_)
 rw [hf3]
 try dsimp only
 exact ⟨none,0,rfl,(Nat.le_of_ble_eq_true rfl),(by omega),(by omega),(by omega),(by omega),(by omega),(RS.nil' ES G),(by omega),(Nat.le_of_ble_eq_true rfl),(Nat.le_of_ble_eq_true rfl),(by omega),(by omega),rfl⟩
 try simp only [BB] at h3
 refine Jm (JM (Ja (Je (Jb (Jd [0,6,0,6,0,0,6,0,0] [(1,Sr v),(2,Pt b1 0),(4,Pt b2 0),(5,Pt b3 0),(32,U o.key),(34,Sr o.name),(35,Sr v),(39,U (IntKind.u64.wrap (o.wanted.length:Int)))] ?_)))))
 have e1:IntKind.u64.wrap (o.wanted.length:Int)=(o.wanted.length:Int):=IntWalk.u64_in _ (by (have q_:=KZ.1 ‹_›;omega))
 refine J3 (fr':=[(1,Sr v),(2,Pt b1 0),(4,Pt b2 0),(5,Pt b3 0),(32,U o.key),(34,Sr o.name),(35,Sr v),(39,U (o.wanted.length:Int))]) (L':=[[Sg b3 0 [Sr ([]),Sr ([]),U 0,U 0]],[Sg b2 0 [Sr ([]),U 0,I 0,U 0,U 0,I 0,Sl none 0 0,I 0]],[Sg b1 0 [Sr o.name,U o.key,I o.head.epoch,U o.head.root,U o.head.prev,I o.head.at_,Sl a1 o.wanted.length c1,I o.had]]]) (by simp only [JfJ,Kv,JgG,Ko,e1];first | done | rfl) (by rfl) ?_
 clear e1
 refine JQ 40 (JhS G o.key o.name ‹_› v ‹_› (o.wanted.length:Int) (by (have q_:=KZ.1 ‹_›;omega))) (fun v G1 L1 hl1 hp=>?_)
 obtain ⟨rfl,w8,w9,w10,w11,rfl⟩:=hp
 refine Jd [0,0,0] [(1,Sr v),(2,Pt b1 0),(4,Pt b2 0),(5,Pt b3 0),(41,(JgG (WQ o.key o.name v (o.wanted.length:Int)).1)),(42,I ((WQ o.key o.name v (o.wanted.length:Int)).2))] (Ju 8 #[Sr ([]),Sr ([]),U 0,U 0] 83 (fun b4=>Kd [3,0] [(1,Sr v),(2,Pt b1 0),(4,Pt b2 0),(5,Pt b3 0),(8,Pt b4 0)] [[Sg b4 0 (JfJ (WQ o.key o.name v (o.wanted.length:Int)).1)],[Sg b3 0 [Sr ([]),Sr ([]),U 0,U 0]],[Sg b2 0 [Sr ([]),U 0,I 0,U 0,U 0,I 0,Sl none 0 0,I 0]],[Sg b1 0 (Kv o a1 c1)]] (Jc (Ja (Je (Jb (Jd [0,8] [(1,Sr v),(2,Pt b1 0),(4,Pt b2 0),(5,Pt b3 0),(8,Pt b4 0),(44,Sl a1 o.wanted.length c1)] (JQ 45 (Jfd G1 a1 c1 o.wanted (hs1.mono hl1)) (fun v G2 L1 hl2 hp=>?_)))))))))
 obtain ⟨a2,c2,_,rfl,hr1,rfl⟩:=hp
 refine Jd [0] [(2,Pt b1 0),(4,Pt b2 0),(5,Pt b3 0),(8,Pt b4 0),(45,Sl a2 o.wanted.length c2),(46,Sr v)] (KH 47 1 #[Sr v] 9 (fun b5=>QJ (b:=b5) (cs:=[Sr v]) 48 9 1 0 (E:=ES) v hr1 ⟨rfl,‹_›⟩ (by have q_:=KZ.1 ‹_›;(try simp only [ES,List.length_append,List.length_cons,List.length_nil]);omega) (by have q_:=KZ.1 ‹_›;(try simp only [ES,List.length_append,List.length_cons,List.length_nil]);omega) (fun a3 c3 r2 hr2=>Kd [0,13] [(2,Pt b1 0),(4,Pt b2 0),(5,Pt b3 0),(8,Pt b4 0)] [[Sg b5 0 [Sr v]],r2,[Sg b4 0 (JfJ (WQ o.key o.name v (o.wanted.length:Int)).1)],[Sg b3 0 [Sr ([]),Sr ([]),U 0,U 0]],[Sg b2 0 [Sr ([]),U 0,I 0,U 0,U 0,I 0,Sl none 0 0,I 0]],[Sg b1 0 (Kv (⟨o.name,o.key,o.head,(o.wanted++[v]),o.had⟩:KP) a3 c3)]] (Jc (Ja (Je (KB [2,3] (Wr [(0,(Ko (⟨o.name,o.key,o.head,(o.wanted++[v]),o.had⟩:KP) a3 c3)),(1,(JgG (WQ o.key o.name v (o.wanted.length:Int)).1))] (J1 [] [(0,12),(1,6)] [] [2] (List.forall_mem_nil _) (List.forall_mem_cons.2 ⟨?_,List.forall_mem_nil _⟩))))))))))
 refine JS 2 [(4,Pt b2 0),(50,(Ko (⟨o.name,o.key,o.head,(o.wanted++[v]),o.had⟩:KP) a3 c3))] (fun X=>?_)
 refine K2 4 [[Sg b5 0 [Sr v]],r2,[Sg b4 0 (JfJ (WQ o.key o.name v (o.wanted.length:Int)).1)],[Sg b3 0 [Sr ([]),Sr ([]),U 0,U 0]],[Sg b2 0 (Kv (⟨o.name,o.key,o.head,(o.wanted++[v]),o.had⟩:KP) a3 c3)],[Sg b1 0 (Kv (⟨o.name,o.key,o.head,(o.wanted++[v]),o.had⟩:KP) a3 c3)]] (Kp [] (J1 [0] [(1,6)] [] [3] (List.forall_mem_nil _) (List.forall_mem_cons.2 ⟨?_,List.forall_mem_nil _⟩)))
 refine JS 3 [(5,Pt b3 0),(51,(JgG (WQ o.key o.name v (o.wanted.length:Int)).1))] (fun X=>?_)
 refine K2 3 [[Sg b5 0 [Sr v]],r2,[Sg b4 0 (JfJ (WQ o.key o.name v (o.wanted.length:Int)).1)],[Sg b3 0 (JfJ (WQ o.key o.name v (o.wanted.length:Int)).1)],[Sg b2 0 (Kv (⟨o.name,o.key,o.head,(o.wanted++[v]),o.had⟩:KP) a3 c3)],[Sg b1 0 (Kv (⟨o.name,o.key,o.head,(o.wanted++[v]),o.had⟩:KP) a3 c3)]] (Kp [(4,I 0)] (KA [0,1] [(4,0)] [] [(4,Pt b2 0),(5,Pt b3 0),(6,I 0)] (List.forall_mem_nil _) (Ja (Jk (Wn (E:=ES) 1 hr2 (by have q_:=KZ.1 ‹_›;(try simp only [ES,List.length_append,List.length_cons,List.length_nil]);omega) (fun G3 hl3 hs2=>?_))))))
 have hf4:JE o v=((⟨o.name,o.key,o.head,o.wanted++[v],o.had⟩:KP),((WQ o.key o.name v (o.wanted.length:Int)).1),0):=by
  unfold JE ZP Y2 JgS WY;simp_all
 refine Jl [4,3,0] [(Ko (⟨o.name,o.key,o.head,(o.wanted++[v]),o.had⟩:KP) a3 c3),(JgG (WQ o.key o.name v (o.wanted.length:Int)).1),I 0] (JY [] (.cons _ (.cons _ (.cons _ (.cons _ (.cons _ (.cons _ .slnil)))))) (Jt.le_trans (Jt.le_trans hl1 hl2) hl3) ?_)
 rw [hf4]
 try dsimp only
 exact ⟨a3,c3,rfl,‹_›,‹_›,‹_›,‹_›,‹_›,‹_›,hs2,‹_›,w8,w9,w10,w11,rfl⟩
end Go.Proofs.YtnnlpbjdignhaaaGreatDoor
