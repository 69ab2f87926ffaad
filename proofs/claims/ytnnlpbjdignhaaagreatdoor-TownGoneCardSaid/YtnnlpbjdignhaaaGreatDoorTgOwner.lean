import Derived.Test.YtnnlpbjdignhaaaGreatDoorTgHeadN
namespace Go.Proofs.YtnnlpbjdignhaaaGreatDoor
open Go.Tx
set_option linter.unusedVariables false
set_option linter.unusedSimpArgs false
def Y8:KO:=⟨[],0,W0,[],0⟩
def Wq (s:List UInt8):Bool:=decide (s.length > 20)
def J6 (o:KO):Int:=if Kt o.name=false then 3 else if JE o.head ≠ 0 then JE o.head else if 30<(o.wanted.length:Int)∨(o.wanted.any fun x0=>Wq x0)=true then 2 else if o.had<0∨(o.wanted.length:Int)<o.had then 4 else 0
def JF (name:List UInt8) (key:Int) (h:JS):KO×Int:=if J6 ⟨name,key,h,[],0⟩ ≠ 0 then (Y8,J6 ⟨name,key,h,[],0⟩) else (⟨name,key,h,[],0⟩,0)
def ZR (o:KO) (v:List UInt8):Int:=if J6 o ≠ 0 then J6 o else if Wq v=true then 2 else if (o.wanted.length:Int)=30 then 7 else 0
def JD (o:KO) (v:List UInt8):KO×WU×Int:=if ZR o v ≠ 0 then (Y8,Jg1,ZR o v) else (⟨o.name,o.key,o.head,o.wanted++[v],o.had⟩,(WR o.key o.name v o.wanted.length).1,0)
theorem K0 {o:KO}:J6 o=0 ↔ Kt o.name=true∧JE o.head=0∧o.wanted.length≤30∧(∀ s∈o.wanted,s.length≤20)∧0≤o.had∧o.had≤o.wanted.length:=by
 unfold J6
 have e:(o.wanted.any fun x0=>Wq x0)=true ↔ ¬ ∀ s∈o.wanted,s.length≤20:=by
  rw [List.any_eq_true]
  unfold Wq
  constructor
  ·
   rintro ⟨x,hx,h⟩ hc
   have:=hc x hx
   simp at h;omega
  ·
   intro h
   apply Classical.byContradiction
   intro hc
   refine h fun s hs=>?_
   apply Classical.byContradiction
   intro h2
   exact hc ⟨s,hs,by simp;omega⟩
 cases hn:Kt o.name with
 | false=>simp
 | true =>
  rw [if_neg (by simp)]
  by_cases h1:JE o.head=0
  ·
   rw [if_neg (by omega)]
   by_cases h2:30<(o.wanted.length:Int)∨(o.wanted.any fun x0=>Wq x0)=true
   ·
    rw [if_pos h2]
    constructor
    ·
     intro h;cases h
    ·
     rintro ⟨_,_,h3,h4,_⟩
     rcases h2 with h2 | h2
     ·
      omega
     ·
      exact absurd h4 (e.1 h2)
   ·
    rw [if_neg h2]
    have h3:o.wanted.length≤30:=Nat.le_of_not_lt fun h=>h2 (.inl (by omega))
    have h4:∀ s∈o.wanted,s.length≤20:=Decidable.not_not.1 fun h=>h2 (.inr (e.2 h))
    split
    ·
     constructor
     ·
      intro h;cases h
     ·
      rintro ⟨_,_,_,_,_,_⟩;omega
    ·
     exact ⟨fun _=>⟨rfl,h1,h3,h4,by omega,by omega⟩,fun _=>rfl⟩
  ·
   rw [if_pos h1]
   exact ⟨fun h=>absurd h h1,fun h=>absurd h.2.1 h1⟩
theorem Vt {o:KO} {v:List UInt8} (h:(JD o v).2.2=0):J6 o=0∧v.length≤20∧o.wanted.length<30∧JD o v=(⟨o.name,o.key,o.head,o.wanted++[v],o.had⟩,⟨o.name,v,o.wanted.length,YW o.key (Wb o.name v o.wanted.length)⟩,0)∧J6 (JD o v).1=0∧ZK o.key (JD o v).2.1=true∧(JD o v).1.key=o.key∧(JD o v).2.1.n=o.wanted.length∧(JD o v).1.wanted.length=o.wanted.length+1:=by
 have key:J6 o=0∧Wq v=false∧¬ (o.wanted.length:Int)=30:=by
  unfold JD at h
  split at h
  ·
   contradiction
  ·
   rename_i h1
   unfold ZR at h1
   by_cases e1:J6 o=0
   ·
    rw [if_neg (by omega)] at h1
    by_cases e2:Wq v=true
    ·
     rw [if_pos e2] at h1;omega
    ·
     rw [if_neg e2] at h1
     by_cases e3:(o.wanted.length:Int)=30
     ·
      rw [if_pos e3] at h1;omega
     ·
      exact ⟨e1,by simpa using e2,e3⟩
   ·
    rw [if_pos e1] at h1;omega
 obtain ⟨e1,e2,e3⟩:=key
 have hi:=K0.1 e1
 have hv:v.length≤20:=by unfold Wq at e2;simp at e2;omega
 have hE:ZR o v=0:=by unfold ZR;rw [if_neg (by omega),if_neg (by rw [e2];simp),if_neg e3]
 have hr:Qi o.name v=0:=by unfold Qi;rw [if_neg (by rw [hi.1];simp),if_neg (by omega)]
 have ht:WR o.key o.name v o.wanted.length=(⟨o.name,v,o.wanted.length,YW o.key (Wb o.name v o.wanted.length)⟩,0):=by unfold WR;rw [if_neg (by omega)]
 have hw:JD o v=(⟨o.name,o.key,o.head,o.wanted++[v],o.had⟩,⟨o.name,v,o.wanted.length,YW o.key (Wb o.name v o.wanted.length)⟩,0):=by
  unfold JD;rw [if_neg (by omega),ht]
 refine ⟨e1,hv,by omega,hw,?_,?_,?_,?_,?_⟩ <;> rw [hw] <;> simp only
 ·
  rw [K0]
  refine ⟨hi.1,hi.2.1,by simp;omega,fun s hs=>?_,hi.2.2.2.2.1,by simp;omega⟩
  rcases List.mem_append.1 hs with hs | hs
  ·
   exact hi.2.2.2.1 s hs
  ·
   rw [List.mem_singleton.1 hs];exact hv
 ·
  unfold ZK;simp [hr]
 ·
  simp
theorem JbA (G:Jt) (s:List UInt8) :QI Tryz.prog 44 #[Sr s] G [] (fun u G' L'=>u=Bo (Wq s)):=by
 refine JK Tryz.func44 6 [(0,Sr s)] rfl (fun w0 G0=>?_)
 refine Jg [0] [(0,Sr s)] (Jg [0,0,0,0] [(2,Bo (decide (((s).length:Int) > 20)))] (Jk (Jl [0] [Bo (decide (((s).length:Int) > 20))] (Jv (Jt.le_refl _) ?_))))
 have hf_:(Wq s)=(decide (((s).length:Int) > 20)):=by
  unfold Wq;rw [Bool.eq_iff_iff];simp;omega
 · (try rw [hf_]);(simp only [JM];done)
theorem VR (G:Jt) (vs_o:List Value) (o:KO) (h_o:QQ.R G vs_o o) :QI Tryz.prog 13 #[.agg vs_o.toArray] G [] (fun u G' L'=>u=I (J6 o)):=by
 obtain ⟨a1,c1,rfl,_,_,_,_,_,_,hs1,_⟩:=h_o
 refine JK Tryz.func13 36 [(0,(Kp o a1 c1))] rfl (fun w0 G0=>?_)
 refine Je (Jb (Ju 1 #[Sr o.name,U o.key,I o.head.epoch,U o.head.root,U o.head.prev,I o.head.at_,Sl a1 o.wanted.length c1,I o.had] 52 (fun b1=>Jd [0] [(1,Pt b1 0)] (Jc (Ja (Je (Je (Jb (Jd [0,2] [(1,Pt b1 0),(5,Sr o.name)] (Ji 6 (Bo (Kt o.name)) (Zm G o.name) (Jd [0] [(1,Pt b1 0),(7,Bo (!(Kt o.name)))] (Jc (Ja (Jo (!(Kt o.name)) (fun h1=>?_) (fun h1=>?_)))))))))))))))
 try simp only [BB] at h1
 refine Jg [0] [(2,I 3)] (Jk (Jh (Jl [0] [I 3] (Jv (Jt.le_refl _) ?_))))
 have hf_:(J6 o)=3:=by
  unfold J6;(rw [if_pos (by simp_all)];done)
 · (try rw [hf_]);(simp only [JM];done)
 try simp only [BB] at h1
 refine Jn (Ja (Je (Je (Jb (Jd [0,2] [(1,Pt b1 0),(9,.agg #[I o.head.epoch,U o.head.root,U o.head.prev,I o.head.at_])] (Ji 10 (I (JE o.head)) (Zw o.head G) (Jd [0] [(1,Pt b1 0),(3,I (JE o.head))] (Jc (Ja (Jg [0,0] [(1,Pt b1 0),(3,I (JE o.head)),(12,Bo (!decide (JE o.head=0)))] (Jo (!decide (JE o.head=0)) (fun h2=>?_) (fun h2=>?_))))))))))))
 try simp only [BB] at h2
 refine Jg [0,0] [(2,I (JE o.head))] (Jk (Jh (Jl [0] [I (JE o.head)] (Jv (Jt.le_refl _) ?_))))
 have hf_:(J6 o)=(JE o.head):=by
  unfold J6;(rw [if_neg (by simp_all),if_pos (by omega)];done)
 · (try rw [hf_]);(simp only [JM];done)
 try simp only [BB] at h2
 refine Jn (Ja (Je (Jz (Je (Jb (Jd [0,2,0,0,0] [(1,Pt b1 0),(19,Bo (decide ((o.wanted.length:Int) > 30)))] (We (fun bb=>[(1,Pt b1 0),(19,Bo bb)]) (decide ((o.wanted.length:Int) > 30)) (fun h3=>?_) (fun h3=>?_))))))))
 try simp only [BB] at h3
 refine Jd [1,1,1,0,0] [(1,Pt b1 0),(14,Bo true)] (Jc (Ja (JZ (Jg [0] [(2,I 2)] (Jk (Js (Jh (Jl [0] [I 2] (Jv (Jt.le_refl _) ?_)))))))))
 have hf_:(J6 o)=2:=by
  unfold J6;(rw [if_neg (by simp_all),if_neg (by omega)];(rw [if_pos (by simp_all)];done))
 · (try rw [hf_]);(simp only [JM];done)
 try simp only [BB] at h3
 refine Jd [0,2] [(1,Pt b1 0),(19,Bo false),(21,Sl a1 o.wanted.length c1)] (Ji 22 (Bo (o.wanted.any (fun x0=>Wq x0))) (Jmx G a1 c1 o.wanted hs1 44 #[] (fun x0=>Wq x0) (fun _ _=>by kernel_rfl) (fun x0 hx0=>JbA G x0)) (Jd [0,0] [(1,Pt b1 0),(14,Bo (o.wanted.any (fun x0=>Wq x0)))] (Jc (Ja (Jo (o.wanted.any (fun x0=>Wq x0)) (fun h4=>?_) (fun h4=>?_))))))
 try simp only [BB] at h4
 refine Jg [0] [(2,I 2)] (Jk (Js (Jh (Jl [0] [I 2] (Jv (Jt.le_refl _) ?_)))))
 have hf_:(J6 o)=2:=by
  unfold J6;(rw [if_neg (by simp_all),if_neg (by omega)];(rw [if_pos (by simp_all)];done))
 · (try rw [hf_]);(simp only [JM];done)
 try simp only [BB] at h4
 refine Je (Jb (Jd [0,2,0,0] [(1,Pt b1 0),(28,Bo (decide (o.had<0)))] (KD (decide (o.had<0)) (fun bb=>[(1,Pt b1 0),(28,Bo bb)]) [1,1,1,1,1,1,0] [0,2,0,2,0,0,0] (fun bb=>[(35,Bo (bb || (decide (o.had > (o.wanted.length:Int)))))]) (Jd [0] [(24,Bo ((decide (o.had<0)) || (decide (o.had > (o.wanted.length:Int)))))] (Jc (Ja (Jo ((decide (o.had<0)) || (decide (o.had > (o.wanted.length:Int)))) (fun h5=>?_) (fun h5=>?_))))))))
 try simp only [BB] at h5
 refine Jg [0] [(2,I 4)] (Jk (Js (Jh (Jl [0] [I 4] (Jv (Jt.le_refl _) ?_)))))
 have hf_:(J6 o)=4:=by
  unfold J6;(rw [if_neg (by simp_all),if_neg (by omega)];(rw [if_neg (by simp_all),if_pos (by omega)];done))
 · (try rw [hf_]);(simp only [JM];done)
 try simp only [BB] at h5
 refine Jn (JN (Ja (Jg [0] [(2,I 0)] (Jk (Jl [0] [I 0] (Jv (Jt.le_refl _) ?_))))))
 have hf_:(J6 o)=0:=by
  unfold J6;(rw [if_neg (by simp_all),if_neg (by omega)];(rw [if_neg (by simp_all),if_neg (by omega)];done))
 · (try rw [hf_]);(simp only [JM];done)
theorem Jcc (G:Jt) (name:List UInt8) (hw_name:(name).length≤140737488351232) (key:Int) (hw_key:rU key) (vs_h:List Value) (h:JS) (h_h:KE.R G vs_h h) :QI Tryz.prog 68 #[Sr name,U key,.agg vs_h.toArray] G [] (fun u G' L'=>∃ (a1:Option Addr) (c2:Nat),u=.tuple #[.agg #[Sr (((JF name key h).1).name),U (((JF name key h).1).key),I (((JF name key h).1).head.epoch),U (((JF name key h).1).head.root),U (((JF name key h).1).head.prev),I (((JF name key h).1).head.at_),Sl a1 ((((JF name key h).1).wanted).length) c2,I (((JF name key h).1).had)],I ((JF name key h).2)]∧((((JF name key h).1).name).length≤140737488351232)∧(rU (((JF name key h).1).key))∧(rI (((JF name key h).1).head.epoch))∧(rU (((JF name key h).1).head.root))∧(rU (((JF name key h).1).head.prev))∧(rI (((JF name key h).1).head.at_))∧(RS ES G' a1 c2 (((JF name key h).1).wanted))∧(rI (((JF name key h).1).had))∧L'=[]):=by
 obtain ⟨rfl,w1,w2,w3,w4⟩:=h_h
 refine JK Tryz.func68 21 [(0,Sr name),(1,U key),(2,.agg #[I h.epoch,U h.root,U h.prev,I h.at_])] rfl (fun w0 G0=>?_)
 refine Je (Jb (Ju 5 #[I h.epoch,U h.root,U h.prev,I h.at_] 50 (fun b1=>Ju 6 #[Sr ([]),U 0,I 0,U 0,U 0,I 0,Sl none 0 0,I 0] 52 (fun b2=>Jd [0] [(0,Sr name),(1,U key),(5,Pt b1 0),(6,Pt b2 0)] (Jc (Ja (Je (Jb (Jd [0,0,4,0] [(6,Pt b2 0),(13,.agg #[Sr name,U key,I h.epoch,U h.root,U h.prev,I h.at_,Sl none 0 0,I 0])] (Ju 8 #[Sr ([]),U 0,I 0,U 0,U 0,I 0,Sl none 0 0,I 0] 52 (fun b3=>Kd [3] [(6,Pt b2 0),(8,Pt b3 0)] [[Sg b3 0 [Sr name,U key,I h.epoch,U h.root,U h.prev,I h.at_,Sl none 0 0,I 0]],[Sg b2 0 [Sr ([]),U 0,I 0,U 0,U 0,I 0,Sl none 0 0,I 0]],[Sg b1 0 [I h.epoch,U h.root,U h.prev,I h.at_]]] (Jc (Ja (Je (Je (Jb (Jd [2] [(6,Pt b2 0),(8,Pt b3 0),(14,.agg #[Sr name,U key,I h.epoch,U h.root,U h.prev,I h.at_,Sl none 0 0,I 0])] (Ji 15 (I (J6 (⟨name,key,h,[],0⟩:KO))) (VR G [Sr name,U key,I h.epoch,U h.root,U h.prev,I h.at_,Sl none 0 0,I 0] (⟨name,key,h,[],0⟩:KO) (⟨none,0,rfl,hw_name,hw_key,w1,w2,w3,w4,(RS.nil' ES G),(by (simp;done))⟩)) (Jd [0] [(6,Pt b2 0),(8,Pt b3 0),(9,I (J6 (⟨name,key,h,[],0⟩:KO)))] (Jc (Ja (Jg [0,0] [(6,Pt b2 0),(8,Pt b3 0),(9,I (J6 (⟨name,key,h,[],0⟩:KO))),(17,Bo (!decide (J6 (⟨name,key,h,[],0⟩:KO)=0)))] ?_))))))))))))))))))))))
 refine Jo (!decide (J6 (⟨name,key,h,[],0⟩:KO)=0)) (fun h1=>?_) (fun h1=>?_)
 try simp only [BB] at h1
 refine Jg [0,0,5,0] [(6,Pt b2 0),(7,I (J6 (⟨name,key,h,[],0⟩:KO)))] (Jk (Jh ?_))
 have hf1:JF name key h=((⟨[],0,(⟨0,0,0,0⟩:JS),[],0⟩:KO),J6 (⟨name,key,h,[],0⟩:KO)):=by
  unfold JF Y8 W0;simp_all
 refine Jl [1,0] [.agg #[Sr ([]),U 0,I 0,U 0,U 0,I 0,Sl none 0 0,I 0],I (J6 (⟨name,key,h,[],0⟩:KO))] (JY [] (.cons _ (.cons _ (.cons _ .slnil))) (Jt.le_refl _) ?_)
 rw [hf1]
 try dsimp only
 exact ⟨none,0,rfl,(Nat.le_of_ble_eq_true rfl),(by omega),(by omega),(by omega),(by omega),(by omega),(RS.nil' ES G),(by omega),rfl⟩
 try simp only [BB] at h1
 refine Jn (Ja (WO [2,5,0] [(6,Pt b2 0),(7,I 0)] [[Sg b3 0 [Sr name,U key,I h.epoch,U h.root,U h.prev,I h.at_,Sl none 0 0,I 0]],[Sg b2 0 [Sr name,U key,I h.epoch,U h.root,U h.prev,I h.at_,Sl none 0 0,I 0]],[Sg b1 0 [I h.epoch,U h.root,U h.prev,I h.at_]]] (Jk ?_)))
 have hf2:JF name key h=((⟨name,key,h,[],0⟩:KO),0):=by
  unfold JF Y8 W0;simp_all
 refine Jl [1,0] [.agg #[Sr name,U key,I h.epoch,U h.root,U h.prev,I h.at_,Sl none 0 0,I 0],I 0] (JY [] (.cons _ (.cons _ (.cons _ .slnil))) (Jt.le_refl _) ?_)
 rw [hf2]
 try dsimp only
 exact ⟨none,0,rfl,hw_name,hw_key,w1,w2,w3,w4,(RS.nil' ES G),(by omega),rfl⟩
theorem Yy (G:Jt) (vs_o:List Value) (o:KO) (h_o:QQ.R G vs_o o) (v:List UInt8) (hw_v:(v).length≤140737488351232) :QI Tryz.prog 107 #[.agg vs_o.toArray,Sr v] G [] (fun u G' L'=>∃ (a1:Option Addr) (c2:Nat),u=.tuple #[.agg #[Sr (((JD o v).1).name),U (((JD o v).1).key),I (((JD o v).1).head.epoch),U (((JD o v).1).head.root),U (((JD o v).1).head.prev),I (((JD o v).1).head.at_),Sl a1 ((((JD o v).1).wanted).length) c2,I (((JD o v).1).had)],.agg #[Sr (((JD o v).2.1).name),Sr (((JD o v).2.1).value),U (((JD o v).2.1).n),U (((JD o v).2.1).tag)],I ((JD o v).2.2)]∧((((JD o v).1).name).length≤140737488351232)∧(rU (((JD o v).1).key))∧(rI (((JD o v).1).head.epoch))∧(rU (((JD o v).1).head.root))∧(rU (((JD o v).1).head.prev))∧(rI (((JD o v).1).head.at_))∧(RS ES G' a1 c2 (((JD o v).1).wanted))∧(rI (((JD o v).1).had))∧((((JD o v).2.1).name).length≤140737488351232)∧((((JD o v).2.1).value).length≤140737488351232)∧(rU (((JD o v).2.1).n))∧(rU (((JD o v).2.1).tag))∧L'=[]):=by
 obtain ⟨a1,c1,rfl,w1,w2,w3,w4,w5,w6,hs1,w7⟩:=h_o
 refine JK Tryz.func107 52 [(0,(Kp o a1 c1)),(1,Sr v)] rfl (fun w0 G0=>?_)
 refine Je (Jb (Ju 2 #[Sr o.name,U o.key,I o.head.epoch,U o.head.root,U o.head.prev,I o.head.at_,Sl a1 o.wanted.length c1,I o.had] 52 (fun b1=>Ju 4 #[Sr ([]),U 0,I 0,U 0,U 0,I 0,Sl none 0 0,I 0] 52 (fun b2=>Ju 5 #[Sr ([]),Sr ([]),U 0,U 0] 83 (fun b3=>Jd [0] [(1,Sr v),(2,Pt b1 0),(4,Pt b2 0),(5,Pt b3 0)] (Jc (Ja (Je (Jb (Jd [6] [(1,Sr v),(2,Pt b1 0),(4,Pt b2 0),(5,Pt b3 0),(10,(Kp o a1 c1))] (Ji 11 (I (J6 o)) (VR G (Kv o a1 c1) o (⟨a1,c1,rfl,w1,w2,w3,w4,w5,w6,hs1,w7⟩)) (Jd [0] [(1,Sr v),(2,Pt b1 0),(4,Pt b2 0),(5,Pt b3 0),(7,I (J6 o))] (Jc (Ja (Je (Jz (Jg [0,0,0] [(1,Sr v),(2,Pt b1 0),(4,Pt b2 0),(5,Pt b3 0),(7,I (J6 o)),(12,Bo (!decide (J6 o=0)))] (Jo (!decide (J6 o=0)) (fun h1=>?_) (fun h1=>?_)))))))))))))))))))
 try simp only [BB] at h1
 refine Jg [0,0,0,5,3,0] [(4,Pt b2 0),(5,Pt b3 0),(6,I (J6 o))] (Jk (Js (Jh ?_)))
 have hf1:JD o v=((⟨[],0,(⟨0,0,0,0⟩:JS),[],0⟩:KO),(⟨[],[],0,0⟩:WU),J6 o):=by
  unfold JD ZR Y8 Jg1 W0;simp_all
 refine Jl [1,0,0] [.agg #[Sr ([]),U 0,I 0,U 0,U 0,I 0,Sl none 0 0,I 0],.agg #[Sr ([]),Sr ([]),U 0,U 0],I (J6 o)] (JY [] (.cons _ (.cons _ (.cons _ .slnil))) (Jt.le_refl _) ?_)
 rw [hf1]
 try dsimp only
 exact ⟨none,0,rfl,(Nat.le_of_ble_eq_true rfl),(by omega),(by omega),(by omega),(by omega),(by omega),(RS.nil' ES G),(by omega),(Nat.le_of_ble_eq_true rfl),(Nat.le_of_ble_eq_true rfl),(by omega),(by omega),rfl⟩
 try simp only [BB] at h1
 refine Je (Jb (Jd [0] [(1,Sr v),(2,Pt b1 0),(4,Pt b2 0),(5,Pt b3 0),(19,Sr v)] (Ji 20 (Bo (Wq v)) (JbA G v) (Jd [0] [(1,Sr v),(2,Pt b1 0),(4,Pt b2 0),(5,Pt b3 0),(18,Bo (Wq v))] (Jc (Ja (Jo (Wq v) (fun h2=>?_) (fun h2=>?_))))))))
 try simp only [BB] at h2
 refine Jg [0,0,5,3,0] [(4,Pt b2 0),(5,Pt b3 0),(6,I 2)] (Jk (Js (Jh ?_)))
 have hf2:JD o v=((⟨[],0,(⟨0,0,0,0⟩:JS),[],0⟩:KO),(⟨[],[],0,0⟩:WU),2):=by
  unfold JD ZR Y8 Jg1 W0;simp_all
 refine Jl [1,0,0] [.agg #[Sr ([]),U 0,I 0,U 0,U 0,I 0,Sl none 0 0,I 0],.agg #[Sr ([]),Sr ([]),U 0,U 0],I 2] (JY [] (.cons _ (.cons _ (.cons _ .slnil))) (Jt.le_refl _) ?_)
 rw [hf2]
 try dsimp only
 exact ⟨none,0,rfl,(Nat.le_of_ble_eq_true rfl),(by omega),(by omega),(by omega),(by omega),(by omega),(RS.nil' ES G),(by omega),(Nat.le_of_ble_eq_true rfl),(Nat.le_of_ble_eq_true rfl),(by omega),(by omega),rfl⟩
 try simp only [BB] at h2
 refine Jg [0,6,0,0,0] [(1,Sr v),(2,Pt b1 0),(4,Pt b2 0),(5,Pt b3 0),(23,Bo (decide ((o.wanted.length:Int)=30)))] (Jo (decide ((o.wanted.length:Int)=30)) (fun h3=>?_) (fun h3=>?_))
 try simp only [BB] at h3
 refine Jg [0,0,5,3,0] [(4,Pt b2 0),(5,Pt b3 0),(6,I 7)] (Jk (Js (Jh ?_)))
 have hf3:JD o v=((⟨[],0,(⟨0,0,0,0⟩:JS),[],0⟩:KO),(⟨[],[],0,0⟩:WU),7):=by
  unfold JD ZR Y8 Jg1 W0;simp_all
 refine Jl [1,0,0] [.agg #[Sr ([]),U 0,I 0,U 0,U 0,I 0,Sl none 0 0,I 0],.agg #[Sr ([]),Sr ([]),U 0,U 0],I 7] (JY [] (.cons _ (.cons _ (.cons _ .slnil))) (Jt.le_refl _) ?_)
 rw [hf3]
 try dsimp only
 exact ⟨none,0,rfl,(Nat.le_of_ble_eq_true rfl),(by omega),(by omega),(by omega),(by omega),(by omega),(RS.nil' ES G),(by omega),(Nat.le_of_ble_eq_true rfl),(Nat.le_of_ble_eq_true rfl),(by omega),(by omega),rfl⟩
 try simp only [BB] at h3
 refine Jn (JN (Ja (Je (Jb (Jd [0,6,0,6,0,0,6,0,0] [(1,Sr v),(2,Pt b1 0),(4,Pt b2 0),(5,Pt b3 0),(32,U o.key),(34,Sr o.name),(35,Sr v),(39,U (IntKind.u64.wrap (o.wanted.length:Int)))] ?_)))))
 have e1:IntKind.u64.wrap (o.wanted.length:Int)=(o.wanted.length:Int):=IntWalk.u64_in _ (by (have q_:=K0.1 ‹_›;omega))
 refine J4 (fr':=[(1,Sr v),(2,Pt b1 0),(4,Pt b2 0),(5,Pt b3 0),(32,U o.key),(34,Sr o.name),(35,Sr v),(39,U (o.wanted.length:Int))]) (L':=[[Sg b3 0 [Sr ([]),Sr ([]),U 0,U 0]],[Sg b2 0 [Sr ([]),U 0,I 0,U 0,U 0,I 0,Sl none 0 0,I 0]],[Sg b1 0 [Sr o.name,U o.key,I o.head.epoch,U o.head.root,U o.head.prev,I o.head.at_,Sl a1 o.wanted.length c1,I o.had]]]) (by simp only [JfS,Kv,JgP,Kp,e1];first | done | rfl) (by rfl) ?_
 clear e1
 refine JQ 40 (Jh0 G o.key o.name ‹_› v ‹_› (o.wanted.length:Int) (by (have q_:=K0.1 ‹_›;omega))) (fun v G1 L1 hl1 hp=>?_)
 obtain ⟨rfl,w8,w9,w10,w11,rfl⟩:=hp
 refine Jd [0,0,0] [(1,Sr v),(2,Pt b1 0),(4,Pt b2 0),(5,Pt b3 0),(41,(JgP (WR o.key o.name v (o.wanted.length:Int)).1)),(42,I ((WR o.key o.name v (o.wanted.length:Int)).2))] (Ju 8 #[Sr ([]),Sr ([]),U 0,U 0] 83 (fun b4=>Kd [3,0] [(1,Sr v),(2,Pt b1 0),(4,Pt b2 0),(5,Pt b3 0),(8,Pt b4 0)] [[Sg b4 0 (JfS (WR o.key o.name v (o.wanted.length:Int)).1)],[Sg b3 0 [Sr ([]),Sr ([]),U 0,U 0]],[Sg b2 0 [Sr ([]),U 0,I 0,U 0,U 0,I 0,Sl none 0 0,I 0]],[Sg b1 0 (Kv o a1 c1)]] (Jc (Ja (Je (Jb (Jd [0,8] [(1,Sr v),(2,Pt b1 0),(4,Pt b2 0),(5,Pt b3 0),(8,Pt b4 0),(44,Sl a1 o.wanted.length c1)] (JQ 45 (Jfl G1 a1 c1 o.wanted (hs1.mono hl1)) (fun v G2 L1 hl2 hp=>?_)))))))))
 obtain ⟨a2,c2,_,rfl,hr1,rfl⟩:=hp
 refine Jd [0] [(2,Pt b1 0),(4,Pt b2 0),(5,Pt b3 0),(8,Pt b4 0),(45,Sl a2 o.wanted.length c2),(46,Sr v)] (KG 47 1 #[Sr v] 9 (fun b5=>QM (b:=b5) (cs:=[Sr v]) 48 9 1 0 (E:=ES) v hr1 ⟨rfl,‹_›⟩ (by have q_:=K0.1 ‹_›;(try simp only [ES,List.length_append,List.length_cons,List.length_nil]);omega) (by have q_:=K0.1 ‹_›;(try simp only [ES,List.length_append,List.length_cons,List.length_nil]);omega) (fun a3 c3 r2 hr2=>Kd [0,13] [(2,Pt b1 0),(4,Pt b2 0),(5,Pt b3 0),(8,Pt b4 0)] [[Sg b5 0 [Sr v]],r2,[Sg b4 0 (JfS (WR o.key o.name v (o.wanted.length:Int)).1)],[Sg b3 0 [Sr ([]),Sr ([]),U 0,U 0]],[Sg b2 0 [Sr ([]),U 0,I 0,U 0,U 0,I 0,Sl none 0 0,I 0]],[Sg b1 0 (Kv (⟨o.name,o.key,o.head,(o.wanted++[v]),o.had⟩:KO) a3 c3)]] (Jc (Ja (Je (KA [2,3] (Ws [(0,(Kp (⟨o.name,o.key,o.head,(o.wanted++[v]),o.had⟩:KO) a3 c3)),(1,(JgP (WR o.key o.name v (o.wanted.length:Int)).1))] (J2 [] [(0,12),(1,6)] [] [2] (List.forall_mem_nil _) (List.forall_mem_cons.2 ⟨?_,List.forall_mem_nil _⟩))))))))))
 refine JT 2 [(4,Pt b2 0),(50,(Kp (⟨o.name,o.key,o.head,(o.wanted++[v]),o.had⟩:KO) a3 c3))] (fun X=>?_)
 refine K3 4 [[Sg b5 0 [Sr v]],r2,[Sg b4 0 (JfS (WR o.key o.name v (o.wanted.length:Int)).1)],[Sg b3 0 [Sr ([]),Sr ([]),U 0,U 0]],[Sg b2 0 (Kv (⟨o.name,o.key,o.head,(o.wanted++[v]),o.had⟩:KO) a3 c3)],[Sg b1 0 (Kv (⟨o.name,o.key,o.head,(o.wanted++[v]),o.had⟩:KO) a3 c3)]] (Kq [] (J2 [0] [(1,6)] [] [3] (List.forall_mem_nil _) (List.forall_mem_cons.2 ⟨?_,List.forall_mem_nil _⟩)))
 refine JT 3 [(5,Pt b3 0),(51,(JgP (WR o.key o.name v (o.wanted.length:Int)).1))] (fun X=>?_)
 refine K3 3 [[Sg b5 0 [Sr v]],r2,[Sg b4 0 (JfS (WR o.key o.name v (o.wanted.length:Int)).1)],[Sg b3 0 (JfS (WR o.key o.name v (o.wanted.length:Int)).1)],[Sg b2 0 (Kv (⟨o.name,o.key,o.head,(o.wanted++[v]),o.had⟩:KO) a3 c3)],[Sg b1 0 (Kv (⟨o.name,o.key,o.head,(o.wanted++[v]),o.had⟩:KO) a3 c3)]] (Kq [(4,I 0)] (Kz [0,1] [(4,0)] [] [(4,Pt b2 0),(5,Pt b3 0),(6,I 0)] (List.forall_mem_nil _) (Ja (Jk (Wn (E:=ES) 1 hr2 (by have q_:=K0.1 ‹_›;(try simp only [ES,List.length_append,List.length_cons,List.length_nil]);omega) (fun G3 hl3 hs2=>?_))))))
 have hf4:JD o v=((⟨o.name,o.key,o.head,o.wanted++[v],o.had⟩:KO),((WR o.key o.name v (o.wanted.length:Int)).1),0):=by
  unfold JD ZR Y8 Jg1 W0;simp_all
 refine Jl [4,3,0] [(Kp (⟨o.name,o.key,o.head,(o.wanted++[v]),o.had⟩:KO) a3 c3),(JgP (WR o.key o.name v (o.wanted.length:Int)).1),I 0] (JY [] (.cons _ (.cons _ (.cons _ (.cons _ (.cons _ (.cons _ .slnil)))))) (Jt.le_trans (Jt.le_trans hl1 hl2) hl3) ?_)
 rw [hf4]
 try dsimp only
 exact ⟨a3,c3,rfl,‹_›,‹_›,‹_›,‹_›,‹_›,‹_›,hs2,‹_›,w8,w9,w10,w11,rfl⟩
end Go.Proofs.YtnnlpbjdignhaaaGreatDoor
