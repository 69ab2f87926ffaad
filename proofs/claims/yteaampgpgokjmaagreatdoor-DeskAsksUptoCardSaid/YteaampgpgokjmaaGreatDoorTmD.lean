import Derived.Test.YteaampgpgokjmaaGreatDoorTmC
set_option linter.unusedVariables false
set_option linter.unusedSimpArgs false
namespace Go.Proofs.YteaampgpgokjmaaGreatDoor
open Go.Tx
open Go.Proofs
open _root_.List renaming forall_mem_nil → Ha, length_append → Hc, length_cons → He, length_nil → Hh, mem_append → Hi, take_add_one → Hj, take_of_length_le → Hk, length_map → Hl, length_take → Hm, length → Hn, getElem?_eq_getElem → Hp, getElem?_eq_some_iff → Hq, mem_of_getElem? → Hr, any_eq_true → Hu, getElem?_append_left → Hv, length_set → Hw, append_assoc → Hy, foldl_append → Hz, mem_cons → HA, length_filter_le → HB, mem_of_mem_take → HD, replicate → HE, getElem?_drop → HF, getElem?_append_right → HH, getElem?_cons_zero → HJ, getElem?_set_self → HK, mem_filter → HL, map_cons → HM
open IntKind renaming i64 → Hb
open _root_.Decidable renaming not_not → Hd
open _root_.Nat renaming le_trans → Hf, le_of_ble_eq_true → Hg, zero_le → Hs, beq → Ht, lt_of_lt_of_le → HG
open IntWalk renaming i64_in → Ho
open _root_.Bool renaming not_eq_false → Hx, or_eq_false_iff → HC, eq_false_or_eq_true → HI
open _root_.Option renaming some → HN
def WB (l:List (List Kc)):List Kc:=l[l.length-1]?.getD []
theorem Jm0 {l:List (List Kc)} {k:Nat} {x:List Kc} (hk:k=l.length-1) (h:l[k]? = some x):x=WB l:=by unfold WB;rw [← hk,h];rfl
def Qk (l:List Kc):Bs:=l.map fun x=>x.name
def Q7 (l:List ZD):Bs:=l.map fun x=>x.name
def Ja3 (c:KT) (m:Bs):Bs:=Qk (WB c.books)++Q7 c.queue.wait++m
def Za (c:KT) (m:Bs):Int:=(nn (Ja3 c m):Int)
theorem JgT {l:List Kc} {i:Nat} {x:Kc} (h:l[i]? = some x):Qk (l.take (i+1))=Qk (l.take i)++[x.name]:=by unfold Qk;rw [Hj,h];simp
theorem JgU {l:List ZD} {i:Nat} {x:ZD} (h:l[i]? = some x):Q7 (l.take (i+1))=Q7 (l.take i)++[x.name]:=by unfold Q7;rw [Hj,h];simp
theorem JoD {l:Bs} {i:Nat} {x:Bb} (h:l[i]? = some x):l.take (i+1)=l.take i++[x]:=by rw [Hj,h];rfl
def Yn (n most:Int):Bool:=decide (n ≥ 1) && decide (n≤most)
theorem VY {n most:Int}:Yn n most=true ↔ 1≤n∧n≤most:=by unfold Yn;simp
def KZ (root a:Int):JX×Int:=if ¬ JK ⟨0,root,0,a⟩=0 then (ZE,JK ⟨0,root,0,a⟩) else (⟨0,root,0,a⟩,0)
theorem Jas {r a:Int} (hr:0≤r∧r<18446744073709551616) (ha:-9223372036854775808≤a∧a<9223372036854775808):(-9223372036854775808≤(KZ r a).1.epoch∧(KZ r a).1.epoch<9223372036854775808)∧(0≤(KZ r a).1.root∧(KZ r a).1.root<18446744073709551616)∧(0≤(KZ r a).1.prev∧(KZ r a).1.prev<18446744073709551616)∧(-9223372036854775808≤(KZ r a).1.at_∧(KZ r a).1.at_<9223372036854775808):=by
 unfold KZ ZE;split <;> simp <;> omega
theorem Jie (l:List Kc):(Qk l).length=l.length:=by simp [Qk]
theorem Jif (l:List ZD):(Q7 l).length=l.length:=by simp [Q7]
def Yc:KT:=⟨⟨0,[]⟩,0,0,0,[],[]⟩
def J7 (most batch every:Int):KT×Int:=if Yn most 30=false∨Yn batch 30=false∨Yn every 1000=false then (Yc,4) else (⟨⟨most,[]⟩,batch,every,0,[(KZ (JY [] []).1 0).1],[[]]⟩,0)
def YM:List JX→List (List Kc)→Int
 | _,[]=>0
 | hs,l::bs=>if ¬ (JY l []).2=0 then (JY l []).2 else if ¬ (JY l []).1=(W2 hs).root then 8 else YM (hs.drop 1) bs
def QM (c:KT):Int:=if (¬ (W2 c.heads).epoch=0∨¬ (c.books.length:Int)=c.heads.length)∨(W9 c.heads).at_ > c.now then 3 else YM c.heads c.books
theorem Jca {hs:List JX} {bs:List (List Kc)} {i:Nat} {x:List Kc} (hx:bs[i]? = some x):YM (hs.drop i) (bs.drop i)=if ¬ (JY x []).2=0 then (JY x []).2 else if ¬ (JY x []).1=(hs[i]?.getD ZE).root then 8 else YM (hs.drop (i+1)) (bs.drop (i+1)):=by
 obtain ⟨hl,he⟩:=Hq.1 hx
 rw [List.drop_eq_getElem_cons hl,he]
 show (if _ then _ else if _ then _ else _)=_
 have:W2 (hs.drop i)=hs[i]?.getD ZE:=by unfold W2;rw [HF];simp
 rw [this,List.drop_drop]
theorem Jjt {hs:List JX} {bs:List (List Kc)} {i:Nat} {x:List Kc} {h:JX} (hx:bs[i]? = some x) (hh:hs[i]? = some h) (h0:(JY x []).2=0) (h1:(JY x []).1=h.root):YM (hs.drop i) (bs.drop i)=YM (hs.drop (i+1)) (bs.drop (i+1)):=by
 rw [Jca hx,if_neg (by omega),hh,if_neg (by simpa using h1)]
theorem JkN {hs:List JX} {bs:List (List Kc)} {i:Nat} {x:List Kc} (hx:bs[i]? = some x) (h0:¬ (JY x []).2=0):YM (hs.drop i) (bs.drop i)=(JY x []).2:=by
 rw [Jca hx,if_pos h0]
theorem JkO {hs:List JX} {bs:List (List Kc)} {i:Nat} {x:List Kc} {h:JX} (hx:bs[i]? = some x) (hh:hs[i]? = some h) (h0:(JY x []).2=0) (h1:¬ (JY x []).1=h.root):YM (hs.drop i) (bs.drop i)=8:=by
 rw [Jca hx,if_neg (by omega),hh,if_pos (by simpa using h1)]
theorem Jga:∀ (bs:List (List Kc)) (hs:List JX),YM hs bs=0 ↔ ∀ (k:Nat) x,bs[k]? = some x→(JY x []).2=0∧(JY x []).1=(hs[k]?.getD ZE).root
 | [],hs=>by simp [YM]
 | l::bs,hs=>by
  have ih:=Jga bs (hs.drop 1)
  have e:W2 hs=hs[0]?.getD ZE:=rfl
  unfold YM
  constructor
  ·
   intro h
   split at h
   · contradiction
   split at h
   · cases h
   ·
    rename_i h1 h2
    intro k x hx
    cases k with
    | zero=>simp only [HJ,HN.injEq] at hx;subst hx;exact ⟨Hd.1 h1,by rw [← e];exact Hd.1 h2⟩
    | succ k =>
     have:=ih.1 h k x (by simpa using hx)
     rw [HF,Nat.add_comm] at this;exact this
  ·
   intro h
   obtain ⟨h1,h2⟩:=h 0 l rfl
   rw [if_neg (by omega),if_neg (by rw [e];omega)]
   refine ih.2 fun k x hx=>?_
   rw [HF,Nat.add_comm]
   exact h (k+1) x (by simpa using hx)
def Kh (c:KT):Int:=if ¬ Ko c.queue=0 then Ko c.queue else if (Yn c.batch 30=false∨Yn c.every 1000=false)∨c.now<0∨c.now > 1000000000 then 4 else if ¬ (Ki c.heads).1=0 then (Ki c.heads).1 else if ¬ QM c=0 then QM c else if Za c [] > 24 then 7 else 0
structure Zr (c:KT):Prop where
 queue:Ko c.queue=0
 batch:1≤c.batch∧c.batch≤30
 every:1≤c.every∧c.every≤1000
 now:0≤c.now∧c.now≤1000000000
 chain:Zn c.heads
 first:(W2 c.heads).epoch=0
 len:c.books.length=c.heads.length
 at_:(W9 c.heads).at_≤c.now
 root:∀ (k:Nat) x,c.books[k]? = some x→(JY x []).2=0∧(JY x []).1=(c.heads[k]?.getD ZE).root
 names:nn (Ja3 c [])≤24
theorem JaR {c:KT}:QM c=0 ↔ (W2 c.heads).epoch=0∧c.books.length=c.heads.length∧(W9 c.heads).at_≤c.now∧∀ (k:Nat) x,c.books[k]? = some x→(JY x []).2=0∧(JY x []).1=(c.heads[k]?.getD ZE).root:=by
 unfold QM
 rw [← Jga]
 split
 ·
  rename_i h
  refine ⟨fun e=>(by cases e),fun ⟨a,b,d,_⟩=>?_⟩
  rcases h with (h | h) | h
  · exact absurd a h
  · omega
  · omega
 ·
  rename_i h
  simp only [not_or,Hd] at h
  refine ⟨fun e=>⟨h.1.1,by have:=h.1.2;omega,by omega,e⟩,fun e=>e.2.2.2⟩
theorem Yo {c:KT}:Kh c=0 ↔ Zr c:=by
 unfold Kh
 constructor
 ·
  intro h
  split at h
  · contradiction
  split at h
  · cases h
  split at h
  · contradiction
  split at h
  · contradiction
  split at h
  · cases h
  ·
   rename_i h1 h2 h3 h4 h5
   simp only [not_or,Hx] at h2
   obtain ⟨⟨a1,a2⟩,a3,a4⟩:=h2
   obtain ⟨b1,b2,b3,b4⟩:=JaR.1 (Hd.1 h4)
   unfold Za at h5
   exact ⟨Hd.1 h1,VY.1 a1,VY.1 a2,⟨by omega,by omega⟩,Qa.1 (Hd.1 h3),b1,b2,b3,b4,by omega⟩
 ·
  intro h
  have e1:=VY.2 h.batch
  have e2:=VY.2 h.every
  have e3:=JaR.2 ⟨h.first,h.len,h.at_,h.root⟩
  have e4:=Qa.2 h.chain
  have e5:=h.names
  have e6:=h.now
  rw [if_neg (by rw [h.queue];simp),if_neg (by rw [e1,e2];simp;omega),if_neg (by rw [e4];simp),if_neg (by rw [e3];simp),if_neg (by unfold Za;omega)]
theorem JkP {c:KT} {x:JX} (h:(c.heads[0]? = some x∧¬ x.epoch=0)∨¬ (c.books.length:Int)=c.heads.length∨(∃ y,c.heads[c.heads.length-1]? = some y∧y.at_ > c.now)):QM c=3:=by
 unfold QM
 rw [if_pos]
 rcases h with ⟨h,h2⟩ | h | ⟨y,h,h2⟩
 · rw [W3 h] at h2;exact .inl (.inl h2)
 · exact .inl (.inr h)
 · rw [Wz rfl h] at h2;exact .inr h2
theorem JoE {c:KT} {x y:JX} (hx:c.heads[0]? = some x) (h1:x.epoch=0) (h2:(c.books.length:Int)=c.heads.length) (hy:c.heads[c.heads.length-1]? = some y) (h3:¬ y.at_ > c.now):QM c=YM c.heads c.books:=by
 unfold QM
 rw [W3 hx] at h1;rw [Wz rfl hy] at h3
 rw [if_neg]
 rintro ((h | h) | h)
 · exact h h1
 · exact h h2
 · exact h3 h
theorem Jfw {c:KT} (hq:Ko c.queue=0) (hc:(Ki c.heads).1=0) (hb:QM c=0):0<c.books.length∧c.books.length≤1000∧(WB c.books).length≤1000∧c.queue.wait.length≤1000:=by
 have h1:=Qj.1 hq
 have h2:=Qa.1 hc
 obtain ⟨_,b2,_,b4⟩:=JaR.1 hb
 have l1:=h2.len1;have l2:=h2.len
 have hl:c.books.length-1<c.books.length:=by omega
 have e:c.books[c.books.length-1]? = some (WB c.books):=by unfold WB;rw [Hp hl];rfl
 have:=(Jc6 (b4 _ _ e).1).1.len
 omega
def KH (c:KT) (epoch:Int):List Kc×Int:=if ¬ Kh c=0 then ([],Kh c) else if epoch<0∨epoch ≥ c.books.length then ([],4) else (c.books[epoch.toNat]?.getD [],0)
theorem JdP {c:KT} {e:Int} (h:(KH c e).2=0):Zr c∧0≤e∧e<c.books.length∧c.books[e.toNat]? = some (KH c e).1:=by
 unfold KH at h ⊢
 split at h
 · contradiction
 split at h
 · cases h
 ·
  rename_i h1 h2
  rw [if_neg h1,if_neg h2]
  have hl:e.toNat<c.books.length:=by omega
  refine ⟨Yo.1 (Hd.1 h1),by omega,by omega,?_⟩
  simp only
  rw [Hp hl];rfl
theorem JoF (c:KT) (e:Int):(KH c e).1.length≤24:=by
 by_cases h:(KH c e).2=0
 ·
  obtain ⟨ok,_,_,hx⟩:=JdP h
  exact (Jc6 (ok.root _ _ hx).1).1.len
 ·
  unfold KH at h ⊢
  split
  · simp
  split
  · simp
  · rename_i h1 h2;rw [if_neg h1,if_neg h2] at h;exact absurd rfl h
def Jgb:Go.Shelf.Ren:=⟨fun x=>if Ht x 7 then 210 else if Ht x 8 then 209 else if Ht x 10 then 248 else if Ht x 11 then 247 else 0,fun x=>if Ht x 0 then 0 else if Ht x 4 then 4 else if Ht x 23 then 292 else if Ht x 24 then 22 else if Ht x 26 then 9 else if Ht x 27 then 294 else if Ht x 28 then 295 else if Ht x 33 then 139 else if Ht x 3 then 4 else 0,fun x=>x⟩
theorem lay_n7:SlLaysZ.n7 Tryz.prog Jgb:={
 mixed:=rfl,
 f7:=⟨Tryz.f210.name,by decide,Tryz.func210.trans (by kernel_rfl)⟩,
 f10:=⟨Tryz.f248.name,by decide,Tryz.func248.trans (by kernel_rfl)⟩,
 t0:=by kernel_rfl,
 a0:=by intro w;kernel_rfl,
 z0:=by intro w;kernel_rfl,
 v0:=by intro w;kernel_rfl,
 t4:=by kernel_rfl,
 a4:=by intro w;kernel_rfl,
 z4:=by intro w;kernel_rfl,
 v4:=by intro w;kernel_rfl,
 t23:=by kernel_rfl,
 a23:=by intro w;kernel_rfl,
 z23:=by intro w;kernel_rfl,
 v23:=by intro w;kernel_rfl,
 t26:=by kernel_rfl,
 a26:=by intro w;kernel_rfl,
 z26:=by intro w;kernel_rfl,
 v26:=by intro w;kernel_rfl,
 t27:=by kernel_rfl,
 a27:=by intro w;kernel_rfl,
 z27:=by intro w;kernel_rfl,
 v27:=by intro w;kernel_rfl,
 t28:=by kernel_rfl,
 a28:=by intro w;kernel_rfl,
 z28:=by intro w;kernel_rfl,
 v28:=by intro w;kernel_rfl,
 t33:=by kernel_rfl,
 a33:=by intro w;kernel_rfl,
 z33:=by intro w;kernel_rfl,
 v33:=by intro w;kernel_rfl }
theorem lay_n8:SlLaysZ.n8 Tryz.prog Jgb:={
 mixed:=rfl,
 f8:=⟨Tryz.f209.name,by decide,Tryz.func209.trans (by kernel_rfl)⟩,
 f11:=⟨Tryz.f247.name,by decide,Tryz.func247.trans (by kernel_rfl)⟩,
 t0:=by kernel_rfl,
 a0:=by intro w;kernel_rfl,
 z0:=by intro w;kernel_rfl,
 v0:=by intro w;kernel_rfl,
 t24:=by kernel_rfl,
 a24:=by intro w;kernel_rfl,
 z24:=by intro w;kernel_rfl,
 v24:=by intro w;kernel_rfl,
 t26:=by kernel_rfl,
 a26:=by intro w;kernel_rfl,
 z26:=by intro w;kernel_rfl,
 v26:=by intro w;kernel_rfl,
 t28:=by kernel_rfl,
 a28:=by intro w;kernel_rfl,
 z28:=by intro w;kernel_rfl,
 v28:=by intro w;kernel_rfl,
 i26:=by kernel_rfl }
theorem Jp0:SlLaysZ.n10 Tryz.prog Jgb:={
 mixed:=rfl,
 f10:=⟨Tryz.f248.name,by decide,Tryz.func248.trans (by kernel_rfl)⟩,
 t0:=by kernel_rfl,
 a0:=by intro w;kernel_rfl,
 z0:=by intro w;kernel_rfl,
 v0:=by intro w;kernel_rfl,
 t4:=by kernel_rfl,
 a4:=by intro w;kernel_rfl,
 z4:=by intro w;kernel_rfl,
 v4:=by intro w;kernel_rfl,
 t23:=by kernel_rfl,
 a23:=by intro w;kernel_rfl,
 z23:=by intro w;kernel_rfl,
 v23:=by intro w;kernel_rfl,
 t26:=by kernel_rfl,
 a26:=by intro w;kernel_rfl,
 z26:=by intro w;kernel_rfl,
 v26:=by intro w;kernel_rfl,
 t33:=by kernel_rfl,
 a33:=by intro w;kernel_rfl,
 z33:=by intro w;kernel_rfl,
 v33:=by intro w;kernel_rfl }
theorem JgV (G:J5) (root:Int) (hw_root:rU root) (a:Int) (hw_a:rI a) :QZ 96 #[U root,I a] G (.tuple #[.agg #[I (((KZ root a).1).epoch),U (((KZ root a).1).root),U (((KZ root a).1).prev),I (((KZ root a).1).at_)],I ((KZ root a).2)]):=by
 refine JP Tryz.func96 18 [(0,U root),(1,I a)] rfl (fun w0 G0=>?_)
 refine Jf (Jd (Jv 4 #[I 0,U 0,U 0,I 0] 43 (fun b1=>Jb [0] [] (Je (Jc (Jf (Jd (Jb [0,0,0] [(10,.agg #[I 0,U root,U 0,I a])] (Jv 6 #[I 0,U 0,U 0,I 0] 43 (fun b2=>JW [3] [] [[Sg b2 0 [I 0,U root,U 0,I a]],[Sg b1 0 [I 0,U 0,U 0,I 0]]] (Je (Jc (Jf (Jf (Jd (Jb [2] [(11,.agg #[I 0,U root,U 0,I a])] (Jm 12 (I (JK (⟨0,root,0,a⟩:JX))) (Z9 (⟨0,root,0,a⟩:JX) G) (Jb [0] [(7,I (JK (⟨0,root,0,a⟩:JX)))] (Je (Jc (Jg [0,0] [(14,Bo (!decide (JK (⟨0,root,0,a⟩:JX)=0)))] (Jl (!decide (JK (⟨0,root,0,a⟩:JX)=0)) (fun h1=>?_) (fun h1=>?_)))))))))))))))))))))))
 refine Jg [0,0,5,0] [(5,I (JK (⟨0,root,0,a⟩:JX)))] (Jn (Jj (Jo [1,0] [.agg #[I 0,U 0,U 0,I 0],I (JK (⟨0,root,0,a⟩:JX))] (Jx (Jh _) ?_))))
 have hf_:(KZ root a)=((⟨0,0,0,0⟩:JX),(JK (⟨0,root,0,a⟩:JX))):=by
  unfold KZ ZE;(rw [if_pos ‹_›];done)
 · (try rw [hf_]);(simp only [QC];done)
 refine Jq (Jc (QF [2,5,0] [(5,I 0)] [[Sg b2 0 [I 0,U root,U 0,I a]],[Sg b1 0 [I 0,U root,U 0,I a]]] (Jn (Jo [1,0] [.agg #[I 0,U root,U 0,I a],I 0] (Jx (Jh _) ?_)))))
 have hf_:(KZ root a)=((⟨0,root,0,a⟩:JX),0):=by
  unfold KZ ZE;(rw [if_neg (by omega)];done)
 · (try rw [hf_]);(simp only [QC];done)
theorem Jbr (G:J5) (n:Int) (most:Int) :QZ 94 #[I n,I most] G (Bo (Yn n most)):=by
 refine JP Tryz.func94 12 [(0,I n),(1,I most)] rfl (fun w0 G0=>?_)
 refine Jg [0] [] (Jf (Jd (Jb [0,0,0] [(7,Bo (decide (n ≥ 1)))] (Ks (decide (n ≥ 1)) [7] [0,0,0,0] [1,1,1,0] (fun bb=>[(11,Bo (bb && (decide (n≤most))))]) (Jb [0] [(4,Bo ((decide (n ≥ 1)) && (decide (n≤most))))] (Je (Jc (Jn (Jo [0] [Bo ((decide (n ≥ 1)) && (decide (n≤most)))] (Jx (Jh _) (congrArg Bo (?_:(Yn n most)=((decide (n ≥ 1)) && (decide (n≤most)))).symm)))))))))))
 rfl
theorem Jgc (G:J5) (vs_c:Bv) (c:KT) (h_c:JaH.R G vs_c c) (hb:0<c.books.length) (hb2:c.books.length≤1000):YS 164 #[.agg vs_c.toArray] G [] (fun u G' L'=>∃ (a1:Ba) (c2:Nat),u=Sl a1 ((WB c.books).length) c2∧(RS QK G' a1 c2 (WB c.books))∧L'=[]):=by
 obtain ⟨a1,c1,a2,c2,a3,c3,rfl,_,_,_,_,_,_,hs3⟩:=h_c
 refine JP Tryz.func164 11 [(0,(QG c a1 c1 a2 c2 a3 c3))] rfl (fun w0 G0=>?_)
 refine Jf (Jd (Jv 1 #[I c.queue.most,Sl a1 c.queue.wait.length c1,I c.batch,I c.every,I c.now,Sl a2 c.heads.length c2,Sl a3 c.books.length c3] 60 (fun b1=>Jb [0] [] (Je (Jc (Jf (Jd (Jb [0,2,0,2,0,0] [(4,Sl a3 c.books.length c3),(8,I (Hb.wrap ((c.books.length:Int)-1)))] ?_))))))))
 have e1:Hb.wrap ((c.books.length:Int)-1)=((c.books.length-1:Nat):Int):=(Ho _ (by omega)).trans (show (c.books.length:Int)-1=((c.books.length-1:Nat):Int) by omega)
 refine Kv 8 (I ((c.books.length-1:Nat):Int)) (congrArg I e1) ?_
 clear e1
 obtain ⟨b2,o1,rfl⟩:=RS.addr hs3 (k:=c.books.length-1) (by omega)
 obtain ⟨x1,hx1⟩:=QS (l:=c.books) (k:=c.books.length-1) (by omega)
 obtain ⟨_,⟨a4,c4,rfl,hs4⟩,hc1⟩:=RS.get hs3 hx1
 refine JV (b:=b2) (off:=o1) (len:=c.books.length) (cap:=c3) (ik:=.i64) 9 44 1 (c.books.length-1) J4 (JO 10 44 (cs:=[Sl a4 x1.length c4]) 0 (Sl a4 x1.length c4) hc1 (Jb [0] [(2,Sl a4 x1.length c4)] (Je (Jc (Jn ?_)))))
 have hf1:WB c.books=x1:=by
  exact (Jm0 rfl hx1).symm
 refine Jo [0] [Sl a4 x1.length c4] (JD [] (Jh _) ?_)
 rw [hf1]
 try dsimp only
 exact ⟨a4,c4,rfl,hs4,rfl⟩
theorem Jcb (G:J5) (vs_c:Bv) (c:KT) (h_c:JaH.R G vs_c c) (a_more:Ba) (c_more:Nat) (more:Bs) (h_more:RS ES G a_more c_more more) (hb:0<c.books.length) (hb2:c.books.length≤1000) (hn1:(WB c.books).length≤1000) (hn2:c.queue.wait.length≤1000) (hn3:more.length≤1000):QZ 155 #[.agg vs_c.toArray,Sl a_more more.length c_more] G (I (Za c more)):=by
 obtain ⟨a1,c1,a2,c2,a3,c3,rfl,w1,hs1,w2,w3,w4,hs2,hs3⟩:=h_c
 refine JP Tryz.func155 49 [(0,(QG c a1 c1 a2 c2 a3 c3)),(1,Sl a_more more.length c_more)] rfl (fun w0 G0=>?_)
 refine Jf (Jd (Jv 2 #[I c.queue.most,Sl a1 c.queue.wait.length c1,I c.batch,I c.every,I c.now,Sl a2 c.heads.length c2,Sl a3 c.books.length c3] 60 (fun b1=>Jb [0] [] (Je (Jc (Jf (Jd (JkL 12 9 4 (fun b2 ob1 hm1=>Jb [0] [(5,.map (some b2))] (Je (Jc (Jf (Jf (Jd (Jb [4] [(13,(QG c a1 c1 a2 c2 a3 c3))] (JN 14 (Jgc G (KW c a1 c1 a2 c2 a3 c3) c (⟨a1,c1,a2,c2,a3,c3,rfl,w1,hs1,w2,w3,w4,hs2,hs3⟩) ‹_› ‹_›) (fun v G1 L1 hl1 hp=>?_)))))))))))))))))
 obtain ⟨a4,c4,rfl,hs4,rfl⟩:=hp
 refine Jb [0,0] [(15,I ((WB c.books).length:Int)),(16,I 0)] (Je (Jc (Jy ?_)))
 have hlm_h_more:more.length≤9223372036854775807:=Hf (h_more).le (h_more).max
 have hlm_hs4:(WB c.books).length≤9223372036854775807:=Hf (hs4).le (hs4).max
 refine Qc (σ:=Nat×Obj) (fun q_=>(q_.1≤(WB c.books).length)∧(Jeq Tryz.prog 9 4 q_.2 q_.1 (Dn (Qk ((WB c.books).take q_.1))))) (fun q_=>[(1,Sl a_more more.length c_more),(2,Pt b1 0),(5,.map (some b2)),(14,Sl a4 ((WB c.books).length) c4),(15,I ((WB c.books).length:Int)),(16,I (q_.1:Int))]) (fun q_=>G1) (fun q_=>[[Ob b2 q_.2],[Sg b1 0 (KW c a1 c1 a2 c2 a3 c3)]]) (fun q_=>(WB c.books).length-q_.1) (0,ob1) ⟨(by (try dsimp only);exact Hs _),(by (try dsimp only);exact hm1)⟩ (fun q_ hs=>?_)
 obtain ⟨i,ob1⟩:=q_
 obtain ⟨hi,hm1⟩:=hs
 dsimp only at hi hm1
 dsimp only
 refine Jg [0] [(17,Bo (decide ((i:Int)<((WB c.books).length:Int))))] (Jf (Jl (decide ((i:Int)<((WB c.books).length:Int))) (fun h1=>?_) (fun h1=>?_)))
 refine Jq (Jc (Jf (Jy (Jf (Jd ?_)))))
 obtain ⟨b3,o1,rfl⟩:=RS.addr hs4 (k:=i) (by omega)
 obtain ⟨x1,hx1⟩:=QS (l:=WB c.books) (k:=i) (by omega)
 obtain ⟨_,⟨rfl,w5,_⟩,hc1⟩:=RS.get hs4 hx1
 refine JV (b:=b3) (off:=o1) (len:=(WB c.books).length) (cap:=c4) (ik:=.i64) 18 111 2 i J4 (JO 19 111 (cs:=[Sr x1.name,Sr x1.value]) 0 (.agg #[Sr x1.name,Sr x1.value]) hc1 (Jv 7 #[Sr ([]),Sr ([])] 111 (fun b4=>JW [3] [] [[Sg b4 0 [Sr x1.name,Sr x1.value]],[Ob b2 ob1],[Sg b1 0 (KW c a1 c1 a2 c2 a3 c3)]] (Je (Jc (Jd (Jb [0,0,2] [(20,.map (some b2)),(22,Sr x1.name)] (Jer (n:=i) (D:=Dn (Qk ((WB c.books).take i))) (s:=x1.name) 1 292 9 4 true hm1 (Go.Maps.string_keyed (by kernel_rfl)) (by kernel_rfl) (by kernel_rfl) (by kernel_rfl) (Hf w5 (by decide)) (HG (m:=1000000) J4 (by decide)) (fun ob2 hm2=>?_)))))))))
 rw [← Jfv] at hm2
 exact Je (JM (Jc (Jd (Jb [0,0] [(16,I (Hb.wrap ((i:Int)+1)))] (Kp 16 ((i:Int)+1) J4 (Je (Qy [[Ob b2 ob2],[Sg b1 0 (KW c a1 c1 a2 c2 a3 c3)]] (Qh (i+1,ob2) ⟨J4,(by rw [JgT hx1];exact hm2)⟩ (by (try dsimp only);omega)))))))))
 refine KX (J1 (Kd (JS (Jc (Jf (Jg [0,0,4,0,0] [(26,Sl a1 c.queue.wait.length c1),(27,I (c.queue.wait.length:Int)),(28,I 0)] (Jy ?_)))))))
 have hlm_h_more:more.length≤9223372036854775807:=Hf (h_more).le (h_more).max
 have hlm_hs1:c.queue.wait.length≤9223372036854775807:=Hf (hs1).le (hs1).max
 refine Qc (σ:=Nat×Obj) (fun q_=>(q_.1≤c.queue.wait.length)∧(Jeq Tryz.prog 9 4 q_.2 ((WB c.books).length+q_.1) (Dn (Qk (WB c.books)++Q7 (c.queue.wait.take q_.1))))) (fun q_=>[(1,Sl a_more more.length c_more),(5,.map (some b2)),(26,Sl a1 c.queue.wait.length c1),(27,I (c.queue.wait.length:Int)),(28,I (q_.1:Int))]) (fun q_=>G1) (fun q_=>[[Ob b2 q_.2],[Sg b1 0 (KW c a1 c1 a2 c2 a3 c3)]]) (fun q_=>c.queue.wait.length-q_.1) (0,ob1) ⟨(by (try dsimp only);exact Hs _),(by (try dsimp only);have e_:=Hk (i:=i) (l:=WB c.books) (by omega);have e2_:i=(WB c.books).length:=(by omega);have q_:=hm1;rw [e_] at q_;rw [e2_] at q_;simpa [Q7] using q_)⟩ (fun q_ hs=>?_)
 obtain ⟨j,ob2⟩:=q_
 obtain ⟨hi,hm2⟩:=hs
 dsimp only at hi hm2
 dsimp only
 refine Jg [0] [(29,Bo (decide ((j:Int)<(c.queue.wait.length:Int))))] (Jf (Jl (decide ((j:Int)<(c.queue.wait.length:Int))) (fun h2=>?_) (fun h2=>?_)))
 refine Jq (Jc (Jf (Jy (Jf (Jd ?_)))))
 obtain ⟨b5,o2,rfl⟩:=RS.addr (hs1.mono hl1) (k:=j) (by omega)
 obtain ⟨x2,hx2⟩:=QS (l:=c.queue.wait) (k:=j) (by omega)
 obtain ⟨_,⟨rfl,w7,_,_,_⟩,hc2⟩:=RS.get (hs1.mono hl1) hx2
 refine JV (b:=b5) (off:=o2) (len:=c.queue.wait.length) (cap:=c1) (ik:=.i64) 30 182 4 j J4 (JO 31 182 (cs:=[Sr x2.name,Sr x2.value,U x2.n,U x2.tag]) 0 (.agg #[Sr x2.name,Sr x2.value,U x2.n,U x2.tag]) hc2 (Jv 9 #[Sr ([]),Sr ([]),U 0,U 0] 182 (fun b6=>JW [3] [] [[Sg b6 0 [Sr x2.name,Sr x2.value,U x2.n,U x2.tag]],[Ob b2 ob2],[Sg b1 0 (KW c (At b5 o2) c1 a2 c2 a3 c3)]] (Je (Jc (Jd (Jb [0,0,2] [(32,.map (some b2)),(34,Sr x2.name)] (Jer (n:=(WB c.books).length+j) (D:=Dn (Qk (WB c.books)++Q7 (c.queue.wait.take j))) (s:=x2.name) 1 292 9 4 true hm2 (Go.Maps.string_keyed (by kernel_rfl)) (by kernel_rfl) (by kernel_rfl) (by kernel_rfl) (Hf w7 (by decide)) (HG (m:=1000000) J4 (by decide)) (fun ob3 hm3=>?_)))))))))
 rw [← Jfv] at hm3
 exact Je (JM (Jc (Jd (Jb [0,0] [(28,I (Hb.wrap ((j:Int)+1)))] (Kp 28 ((j:Int)+1) J4 (Je (Qy [[Ob b2 ob3],[Sg b1 0 (KW c (At b5 o2) c1 a2 c2 a3 c3)]] (Qh (j+1,ob3) ⟨J4,(by rw [JgU hx2,← Hy];exact hm3)⟩ (by (try dsimp only);omega)))))))))
 refine KX (J1 (Kd (JS (Jc (Jf (Jg [0,0,0] [(36,Sl a_more more.length c_more),(37,I (more.length:Int)),(38,I 0)] (Jy ?_)))))))
 have hlm_h_more:more.length≤9223372036854775807:=Hf (h_more).le (h_more).max
 refine Qc (σ:=Nat×Obj) (fun q_=>(q_.1≤more.length)∧(Jeq Tryz.prog 9 4 q_.2 ((WB c.books).length+c.queue.wait.length+q_.1) (Dn (Qk (WB c.books)++Q7 c.queue.wait++more.take q_.1)))) (fun q_=>[(5,.map (some b2)),(36,Sl a_more more.length c_more),(37,I (more.length:Int)),(38,I (q_.1:Int))]) (fun q_=>G1) (fun q_=>[[Ob b2 q_.2],[Sg b1 0 (KW c a1 c1 a2 c2 a3 c3)]]) (fun q_=>more.length-q_.1) (0,ob2) ⟨(by (try dsimp only);exact Hs _),(by (try dsimp only);have e_:=Hk (i:=j) (l:=c.queue.wait) (by omega);have e2_:j=c.queue.wait.length:=(by omega);have q_:=hm2;rw [e_] at q_;rw [e2_] at q_;simpa using q_)⟩ (fun q_ hs=>?_)
 obtain ⟨k,ob3⟩:=q_
 obtain ⟨hi,hm3⟩:=hs
 dsimp only at hi hm3
 dsimp only
 refine Jg [0] [(39,Bo (decide ((k:Int)<(more.length:Int))))] (Jf (Jl (decide ((k:Int)<(more.length:Int))) (fun h3=>?_) (fun h3=>?_)))
 refine Jq (Jc (Jf (Jy (Jf (Jd ?_)))))
 obtain ⟨b7,o3,rfl⟩:=RS.addr (h_more.mono hl1) (k:=k) (by omega)
 obtain ⟨x3,hx3⟩:=QS (l:=more) (k:=k) (by omega)
 obtain ⟨_,⟨rfl,w11⟩,hc3⟩:=RS.get (h_more.mono hl1) hx3
 refine JV (b:=b7) (off:=o3) (len:=more.length) (cap:=c_more) (ik:=.i64) 40 9 1 k J4 (JO 41 9 (cs:=[Sr x3]) 0 (Sr x3) hc3 (Jb [0] [(11,Sr x3)] (Je (Jc (Jd (Jb [0,0] [(42,.map (some b2)),(43,Sr x3)] (Jer (n:=(WB c.books).length+c.queue.wait.length+k) (D:=Dn (Qk (WB c.books)++Q7 c.queue.wait++more.take k)) (s:=x3) 0 292 9 4 true hm3 (Go.Maps.string_keyed (by kernel_rfl)) (by kernel_rfl) (by kernel_rfl) (by kernel_rfl) (Hf w11 (by decide)) (HG (m:=1000000) J4 (by decide)) (fun ob4 hm4=>?_))))))))
 rw [← Jfv] at hm4
 exact Je (JM (Jc (Jd (Jb [0,0] [(38,I (Hb.wrap ((k:Int)+1)))] (Kp 38 ((k:Int)+1) J4 (Je (Qh (k+1,ob4) ⟨J4,(by rw [JoD hx3,← Hy];exact hm4)⟩ (by (try dsimp only);omega))))))))
 refine KX (J1 (Kd (JS (Jc (Jf (Jd (Jb [0] [(45,.map (some b2))] (JmZ (ρ:=Jgb) (b:=b2) 46 lay_n7 (fun bk1=>Jid (ρ:=Jgb) (b:=b2) (bk:=bk1) (D:=Dn (Qk (WB c.books)++Q7 c.queue.wait++more.take k)) 47 1 0 lay_n8 Jp0 hm3 (by rw [(JlM _).2.2];refine Hf (nn_le _) ?_;simp only [Hc,Jie,Jif,Hm];omega) (fun a5 c5=>?_))))))))))
 refine Jb [0,0] [(4,I (((strKeys (Dn (Qk (WB c.books)++Q7 c.queue.wait++more.take k))).length:Nat):Int))] (Je (Jc (Jn (Jo [0] [I (((strKeys (Dn (Qk (WB c.books)++Q7 c.queue.wait++more.take k))).length:Nat):Int)] (Jx hl1 (congrArg I (?_:(Za c more)=(((strKeys (Dn (Qk (WB c.books)++Q7 c.queue.wait++more.take k))).length:Nat):Int)).symm))))))
 rw [JpZ];unfold Za Ja3;rw [Hk (i:=k) (l:=more) (by omega)]
theorem Jig (G:J5) (most:Int) (hw_most:rI most) (batch:Int) (hw_batch:rI batch) (every:Int) (hw_every:rI every) :YS 55 #[I most,I batch,I every] G [] (fun u G' L'=>∃ (a1:Ba) (c2:Nat) (a3:Ba) (c4:Nat) (a5:Ba) (c6:Nat),u=.tuple #[.agg #[I (((J7 most batch every).1).queue.most),Sl a1 ((((J7 most batch every).1).queue.wait).length) c2,I (((J7 most batch every).1).batch),I (((J7 most batch every).1).every),I (((J7 most batch every).1).now),Sl a3 ((((J7 most batch every).1).heads).length) c4,Sl a5 ((((J7 most batch every).1).books).length) c6],I ((J7 most batch every).2)]∧(rI (((J7 most batch every).1).queue.most))∧(RS Q6 G' a1 c2 (((J7 most batch every).1).queue.wait))∧(rI (((J7 most batch every).1).batch))∧(rI (((J7 most batch every).1).every))∧(rI (((J7 most batch every).1).now))∧(RS KO G' a3 c4 (((J7 most batch every).1).heads))∧(RS QA G' a5 c6 (((J7 most batch every).1).books))∧L'=[]):=by
 refine JP Tryz.func55 43 [(0,I most),(1,I batch),(2,I every)] rfl (fun w0 G0=>?_)
 refine Jf (Jd (Jv 6 #[I 0,Sl none 0 0,I 0,I 0,I 0,Sl none 0 0,Sl none 0 0] 60 (fun b1=>Jb [0] [] (Je (Jc (Jf (Jf (Jd (Jb [0] [(12,I most)] (Jm 13 (Bo (Yn most 30)) (Jbr G most 30) (Jb [0,0] [(15,Bo (!(Yn most 30)))] (QR [15] (!(Yn most 30)) (fun h1=>?_) (fun h1=>?_)))))))))))))
 refine Jb [1,1,1,0,0,1,1,1,0] [(24,Bo true)] (Je (Jc (J0 (Jg [0,3,0] [(7,I 4)] (Jn (Jj ?_))))))
 have hf1:J7 most batch every=((⟨(⟨0,[]⟩:Q3),0,0,0,[],[]⟩:KT),4):=by
  unfold J7 Yc;simp_all
 refine Jo [0,0] [.agg #[I 0,Sl none 0 0,I 0,I 0,I 0,Sl none 0 0,Sl none 0 0],I 4] (JD [] (Jh _) ?_)
 rw [hf1]
 try dsimp only
 exact ⟨none,0,none,0,none,0,rfl,J4,(J2 Q6 G),J4,J4,J4,(J2 KO G),(J2 QA G),rfl⟩
 refine Jb [0] [(16,I batch)] (Jm 17 (Bo (Yn batch 30)) (Jbr G batch 30) (Jb [0,0,0] [(20,Bo (!(Yn batch 30)))] (QR [20] (!(Yn batch 30)) (fun h2=>?_) (fun h2=>?_))))
 refine Jb [1,1,1,0] [(24,Bo true)] (Je (Jc (J0 (Jg [0,3,0] [(7,I 4)] (Jn (Jj ?_))))))
 have hf2:J7 most batch every=((⟨(⟨0,[]⟩:Q3),0,0,0,[],[]⟩:KT),4):=by
  unfold J7 Yc;simp_all
 refine Jo [0,0] [.agg #[I 0,Sl none 0 0,I 0,I 0,I 0,Sl none 0 0,Sl none 0 0],I 4] (JD [] (Jh _) ?_)
 rw [hf2]
 try dsimp only
 exact ⟨none,0,none,0,none,0,rfl,J4,(J2 Q6 G),J4,J4,J4,(J2 KO G),(J2 QA G),rfl⟩
 refine Jb [0] [(21,I every)] (Jm 22 (Bo (Yn every 1000)) (Jbr G every 1000) (Jb [0,0] [(24,Bo (!(Yn every 1000)))] (Je (Jc (Jl (!(Yn every 1000)) (fun h3=>?_) (fun h3=>?_))))))
 refine Jg [0,3,0] [(7,I 4)] (Jn (Jj ?_))
 have hf3:J7 most batch every=((⟨(⟨0,[]⟩:Q3),0,0,0,[],[]⟩:KT),4):=by
  unfold J7 Yc;simp_all
 refine Jo [0,0] [.agg #[I 0,Sl none 0 0,I 0,I 0,I 0,Sl none 0 0,Sl none 0 0],I 4] (JD [] (Jh _) ?_)
 rw [hf3]
 try dsimp only
 exact ⟨none,0,none,0,none,0,rfl,J4,(J2 Q6 G),J4,J4,J4,(J2 KO G),(J2 QA G),rfl⟩
 refine Jq (Jc (Jf (Jd (Jm 27 (.tuple #[U ((JY ([]) []).1),I ((JY ([]) []).2)]) (JbH G none 0 ([]) (J2 QK G)) (Jb [0,0,0,0,0] [(8,U ((JY ([]) []).1))] (Je (Jc (Jf (Jd (Jb [0] [(31,U ((JY ([]) []).1))] (Jm 32 (.tuple #[(VS (KZ ((JY ([]) []).1) 0).1),I ((KZ ((JY ([]) []).1) 0).2)]) (JgV G ((JY ([]) []).1) (Vq _ _) 0 J4) (Jb [0,0,0] [(33,(VS (KZ ((JY ([]) []).1) 0).1)),(34,I ((KZ ((JY ([]) []).1) 0).2))] (Jv 10 #[I 0,U 0,U 0,I 0] 43 (fun b2=>JW [3,0] [] [[Sg b2 0 (Jdt (KZ ((JY ([]) []).1) 0).1)],[Sg b1 0 [I 0,Sl none 0 0,I 0,I 0,I 0,Sl none 0 0,Sl none 0 0]]] (Je (Jc (Jf (Jd (Jb [0,0,0,0,2] [(36,.agg #[I most,Sl none 0 0]),(37,I batch),(38,I every),(39,(VS (KZ ((JY ([]) []).1) 0).1))] (Km 40 1 #[I (((KZ ((JY ([]) []).1) 0).1).epoch),U (((KZ ((JY ([]) []).1) 0).1).root),U (((KZ ((JY ([]) []).1) 0).1).prev),I (((KZ ((JY ([]) []).1) 0).1).at_)] 43 (fun b3=>Km 41 1 #[Sl none 0 0] 44 (fun b4=>?_))))))))))))))))))))))
 refine JW [0,9,0] [(7,I 0)] [[Sg b4 0 [Sl none 0 0]],[Sg b3 0 (Jdt (KZ ((JY ([]) []).1) 0).1)],[Sg b2 0 (Jdt (KZ ((JY ([]) []).1) 0).1)],[Sg b1 0 [I most,Sl none 0 0,I batch,I every,I 0,Sl (At b3 0) 1 1,Sl (At b4 0) 1 1]]] (Je (Jc (Jn (JdO (b:=b3) (o:=0) (cs:=(Jdt (KZ ((JY ([]) []).1) 0).1)) 1 (fun G1 hl1 hz1=>?_)))))
 have hs1:RS KO G1 (At b3 0) 1 [((KZ ((JY ([]) []).1) 0).1)]:=RS.lit [(Jdt (KZ ((JY ([]) []).1) 0).1)] [((KZ ((JY ([]) []).1) 0).1)] ⟨⟨rfl,(by have q_:=Jas (r:=(JY [] []).1) (a:=0) (Vq _ _) (by omega);omega),(by have q_:=Jas (r:=(JY [] []).1) (a:=0) (Vq _ _) (by omega);omega),(by have q_:=Jas (r:=(JY [] []).1) (a:=0) (Vq _ _) (by omega);omega),(by have q_:=Jas (r:=(JY [] []).1) (a:=0) (Vq _ _) (by omega);omega)⟩,trivial⟩ hz1 (Hg rfl) (Hg rfl)
 refine JdO (b:=b4) (o:=0) (cs:=[Sl none 0 0]) 0 (fun G2 hl2 hz2=>?_)
 have hs2:RS QA G2 (At b4 0) 1 [[]]:=RS.lit [[Sl none 0 0]] [[]] ⟨⟨none,0,rfl,(J2 QK G2)⟩,trivial⟩ hz2 (Hg rfl) (Hg rfl)
 have hf4:J7 most batch every=((⟨(⟨most,[]⟩:Q3),batch,every,0,[((KZ ((JY ([]) []).1) 0).1)],[[]]⟩:KT),0):=by
  unfold J7 Yc;simp_all
 refine Jo [3,0] [.agg #[I most,Sl none 0 0,I batch,I every,I 0,Sl (At b3 0) 1 1,Sl (At b4 0) 1 1],I 0] (JD [] (Ja hl1 hl2) ?_)
 rw [hf4]
 try dsimp only
 exact ⟨none,0,(At b3 0),1,(At b4 0),1,rfl,hw_most,(J2 Q6 G2),hw_batch,hw_every,J4,(hs1.mono hl2),hs2,rfl⟩
set_option maxRecDepth 20000 in
theorem Jgd (G:J5) (vs_c:Bv) (c:KT) (h_c:JaH.R G vs_c c) (h0:1≤c.heads.length) (h9:c.heads.length≤40):QZ 206 #[.agg vs_c.toArray] G (I (QM c)):=by
 obtain ⟨a1,c1,a2,c2,a3,c3,rfl,_,_,_,_,_,hs2,hs3⟩:=h_c
 refine JP Tryz.func206 63 [(0,(QG c a1 c1 a2 c2 a3 c3))] rfl (fun w0 G0=>?_)
 refine Jf (Jd (Jv 1 #[I c.queue.most,Sl a1 c.queue.wait.length c1,I c.batch,I c.every,I c.now,Sl a2 c.heads.length c2,Sl a3 c.books.length c3] 60 (fun b1=>Jb [0] [] (Je (Jc (Jg [0,2,0,0] [(3,I (c.heads.length:Int))] (Jf (Jf ?_))))))))
 obtain ⟨b2,o1,rfl⟩:=RS.addr hs2 (k:=0) (by omega)
 obtain ⟨x1,hx1⟩:=QS (l:=c.heads) (k:=0) (by omega)
 obtain ⟨_,⟨rfl,_,_,_,_⟩,hc1⟩:=RS.get hs2 hx1
 rcases HI (!decide (x1.epoch=0)) with h1 | h1
 have h1d:=h1
 try simp only [BB] at h1d
 refine Kt [] (Wm [(0,Pt b1 5),(1,Sl (At b2 o1) c.heads.length c2),(2,Pt b2 (o1+0*4)),(3,Pt b2 (o1+0*4)),(4,I x1.epoch),(5,Bo true),(6,Bo true),(7,undef),(8,undef),(9,undef),(10,undef),(11,undef),(12,Bo true),(13,Bo true),(14,undef),(15,undef),(16,undef),(17,undef),(18,undef),(19,undef),(20,undef),(21,undef),(22,undef),(23,undef),(24,Bo true)] (Kl [] [(0,0),(1,2),(3,0),(6,0),(7,1),(8,1),(9,1),(10,1),(11,1),(12,0),(13,0),(14,1),(15,1),(16,1),(17,1),(18,1),(19,1),(20,1),(21,1),(22,1),(23,1),(24,0)] [2,4,5] [(1,Pt b1 0),(35,Bo true)] (Kf ?_ (Kf ?_ (Kf ?_ KY))) ?_))
 refine Jr 2 13 (Pt b2 (o1+0*4)) [(12,Sl (At b2 o1) c.heads.length c2)] (fun X=>?_)
 exact JV (b:=b2) (off:=o1) (len:=c.heads.length) (cap:=c2) (ik:=.i64) 13 43 4 0 J4 Jp
 refine Jr 4 15 (I x1.epoch) [(14,Pt b2 (o1+0*4))] (fun X=>?_)
 exact JO 15 2 (cs:=[I x1.epoch,U x1.root,U x1.prev,I x1.at_]) 0 (I x1.epoch) hc1 Jp
 refine Jr 5 16 (Bo true) [(15,I x1.epoch)] (fun X=>?_)
 exact K5 16 (Bo (!decide (x1.epoch=0))) (Bo true) (by rw [h1]) Jp
 refine Jc (J0 (Jg [0] [(2,I 3)] (Jn (Jj (Jo [0] [I 3] (Jx (Jh _) (congrArg I (?_:(QM c)=3).symm)))))))
 exact JkP (.inl ⟨hx1,by assumption⟩)
 have h1d:=h1
 try simp only [BB] at h1d
 rcases HI (!decide ((c.books.length:Int)=(c.heads.length:Int))) with h2 | h2
 have h2d:=h2
 try simp only [BB] at h2d
 refine Kt [] (Wm [(0,Pt b1 5),(1,Sl (At b2 o1) c.heads.length c2),(2,Pt b2 (o1+0*4)),(3,Pt b2 (o1+0*4)),(4,I x1.epoch),(5,Bo false),(6,Bo false),(7,Pt b1 6),(8,Sl a3 c.books.length c3),(9,I (c.books.length:Int)),(10,I (c.heads.length:Int)),(11,Bo true),(12,Bo true),(13,Bo true),(14,undef),(15,undef),(16,undef),(17,undef),(18,undef),(19,undef),(20,undef),(21,undef),(22,undef),(23,undef),(24,Bo true)] (Kl [] [(0,0),(1,2),(3,0),(6,0),(7,0),(8,2),(9,0),(10,0),(12,0),(13,0),(14,1),(15,1),(16,1),(17,1),(18,1),(19,1),(20,1),(21,1),(22,1),(23,1),(24,0)] [2,4,5,11] [(1,Pt b1 0),(35,Bo true)] (Kf ?_ (Kf ?_ (Kf ?_ (Kf ?_ KY)))) ?_))
 refine Jr 2 13 (Pt b2 (o1+0*4)) [(12,Sl (At b2 o1) c.heads.length c2)] (fun X=>?_)
 exact JV (b:=b2) (off:=o1) (len:=c.heads.length) (cap:=c2) (ik:=.i64) 13 43 4 0 J4 Jp
 refine Jr 4 15 (I x1.epoch) [(14,Pt b2 (o1+0*4))] (fun X=>?_)
 exact JO 15 2 (cs:=[I x1.epoch,U x1.root,U x1.prev,I x1.at_]) 0 (I x1.epoch) hc1 Jp
 refine Jr 5 16 (Bo false) [(15,I x1.epoch)] (fun X=>?_)
 exact K5 16 (Bo (!decide (x1.epoch=0))) (Bo false) (by rw [h1]) Jp
 refine Jr 11 22 (Bo true) [(17,Bo false),(20,I (c.books.length:Int)),(21,I (c.heads.length:Int))] (fun X=>?_)
 exact K5 22 (Bo (!decide ((c.books.length:Int)=(c.heads.length:Int)))) (Bo true) (by rw [h2]) Jp
 refine Jc (J0 (Jg [0] [(2,I 3)] (Jn (Jj (Jo [0] [I 3] (Jx (Jh _) (congrArg I (?_:(QM c)=3).symm)))))))
 exact JkP (x:=ZE) (.inr (.inl ‹_›))
 have h2d:=h2
 try simp only [BB] at h2d
 have e1:Hb.wrap ((c.heads.length:Int)-1)=((c.heads.length-1:Nat):Int):=(Ho _ (by omega)).trans (show (c.heads.length:Int)-1=((c.heads.length-1:Nat):Int) by omega)
 obtain ⟨x2,hx2⟩:=QS (l:=c.heads) (k:=c.heads.length-1) (by omega)
 obtain ⟨_,⟨rfl,_,_,_,_⟩,hc2⟩:=RS.get hs2 hx2
 refine Kt [] (Wm [(0,Pt b1 5),(1,Sl (At b2 o1) c.heads.length c2),(2,Pt b2 (o1+0*4)),(3,Pt b2 (o1+0*4)),(4,I x1.epoch),(5,Bo false),(6,Bo false),(7,Pt b1 6),(8,Sl a3 c.books.length c3),(9,I (c.books.length:Int)),(10,I (c.heads.length:Int)),(11,Bo false),(12,Bo false),(13,Bo false),(14,Pt b1 5),(15,Sl (At b2 o1) c.heads.length c2),(16,I (c.heads.length:Int)),(17,I ((c.heads.length-1:Nat):Int)),(18,Pt b2 (o1+(c.heads.length-1)*4)),(19,Pt b2 (o1+(c.heads.length-1)*4+3)),(20,I x2.at_),(21,Pt b1 4),(22,I c.now),(23,Bo (decide (x2.at_ > c.now))),(24,Bo (decide (x2.at_ > c.now)))] (Kl [] [(0,0),(1,2),(3,0),(6,0),(7,0),(8,2),(9,0),(10,0),(12,0),(13,0),(14,0),(15,2),(16,0),(19,0),(21,0),(22,2),(23,0),(24,0)] [2,4,5,11,17,18,20] [(1,Pt b1 0),(35,Bo (decide (x2.at_ > c.now)))] (Kf ?_ (Kf ?_ (Kf ?_ (Kf ?_ (Kf ?_ (Kf ?_ (Kf ?_ KY))))))) ?_))
 refine Jr 2 13 (Pt b2 (o1+0*4)) [(12,Sl (At b2 o1) c.heads.length c2)] (fun X=>?_)
 exact JV (b:=b2) (off:=o1) (len:=c.heads.length) (cap:=c2) (ik:=.i64) 13 43 4 0 J4 Jp
 refine Jr 4 15 (I x1.epoch) [(14,Pt b2 (o1+0*4))] (fun X=>?_)
 exact JO 15 2 (cs:=[I x1.epoch,U x1.root,U x1.prev,I x1.at_]) 0 (I x1.epoch) hc1 Jp
 refine Jr 5 16 (Bo false) [(15,I x1.epoch)] (fun X=>?_)
 exact K5 16 (Bo (!decide (x1.epoch=0))) (Bo false) (by rw [h1]) Jp
 refine Jr 11 22 (Bo false) [(17,Bo false),(20,I (c.books.length:Int)),(21,I (c.heads.length:Int))] (fun X=>?_)
 exact K5 22 (Bo (!decide ((c.books.length:Int)=(c.heads.length:Int)))) (Bo false) (by rw [h2]) Jp
 refine Jr 17 28 (I ((c.heads.length-1:Nat):Int)) [(24,Bo false),(27,I (c.heads.length:Int))] (fun X=>?_)
 exact K5 28 (I (Hb.wrap ((c.heads.length:Int)-1))) (I ((c.heads.length-1:Nat):Int)) (by simp only [e1]) Jp
 refine Jr 18 29 (Pt b2 (o1+(c.heads.length-1)*4)) [(24,Bo false),(26,Sl (At b2 o1) c.heads.length c2),(28,I ((c.heads.length-1:Nat):Int))] (fun X=>?_)
 exact JV (b:=b2) (off:=o1) (len:=c.heads.length) (cap:=c2) (ik:=.i64) 29 43 4 (c.heads.length-1) J4 Jp
 refine Jr 20 31 (I x2.at_) [(24,Bo false),(30,Pt b2 (o1+(c.heads.length-1)*4+3))] (fun X=>?_)
 exact JO 31 2 (cs:=[I x2.epoch,U x2.root,U x2.prev,I x2.at_]) 3 (I x2.at_) hc2 Jp
 refine Jc (Jl (decide (x2.at_ > c.now)) (fun h3=>?_) (fun h3=>?_))
 refine Jg [0] [(2,I 3)] (Jn (Jj (Jo [0] [I 3] (Jx (Jh _) (congrArg I (?_:(QM c)=3).symm)))))
 exact JkP (x:=ZE) (.inr (.inr ⟨_,hx2,by omega⟩))
 refine Jq (Jc (Jf (Jg [0,2,0,0] [(37,Sl a3 c.books.length c3),(38,I (c.books.length:Int)),(39,I 0)] (Jy ?_))))
 have hlm_hs3:c.books.length≤9223372036854775807:=Hf (hs3).le (hs3).max
 refine Qc (σ:=Nat) (fun q_=>(q_≤c.books.length)∧(YM c.heads c.books=YM (c.heads.drop q_) (c.books.drop q_))) (fun q_=>[(1,Pt b1 0),(37,Sl a3 c.books.length c3),(38,I (c.books.length:Int)),(39,I (q_:Int))]) (fun q_=>G) (fun q_=>[[Sg b1 0 (KW c a1 c1 (At b2 o1) c2 a3 c3)]]) (fun q_=>c.books.length-q_) 0 ⟨(by (try dsimp only);exact Hs _),rfl⟩ (fun q_ hs=>?_)
 revert hs;revert q_;intro i hs
 obtain ⟨hi,hn⟩:=hs
 dsimp only
 refine Jg [0] [(40,Bo (decide ((i:Int)<(c.books.length:Int))))] (Jf (Jl (decide ((i:Int)<(c.books.length:Int))) (fun h4=>?_) (fun h4=>?_)))
 refine Jq (Jc (Jf (Jy (Jf (Jd (Jb [0] [(41,I (i:Int))] ?_))))))
 obtain ⟨b3,o2,rfl⟩:=RS.addr hs3 (k:=i) (by omega)
 obtain ⟨x3,hx3⟩:=QS (l:=c.books) (k:=i) (by omega)
 obtain ⟨_,⟨a4,c4,rfl,hs4⟩,hc3⟩:=RS.get hs3 hx3
 refine JV (b:=b3) (off:=o2) (len:=c.books.length) (cap:=c3) (ik:=.i64) 42 44 1 i J4 (JO 43 44 (cs:=[Sl a4 x3.length c4]) 0 (Sl a4 x3.length c4) hc3 (Jb [0,0] [(4,I (i:Int)),(5,Sl a4 x3.length c4)] (Je (Jc (Jf (Jd (Jb [0] [(45,Sl a4 x3.length c4)] (Jm 46 (.tuple #[U ((JY x3 []).1),I ((JY x3 []).2)]) (JbH G a4 c4 x3 hs4) (Jb [0,0,0,0,0] [(6,U ((JY x3 []).1)),(7,I ((JY x3 []).2))] (Je (Jc (Jy (Jg [0,0,0] [(49,Bo (!decide ((JY x3 []).2=0)))] (Jl (!decide ((JY x3 []).2=0)) (fun h5=>?_) (fun h5=>?_)))))))))))))))
 refine Jg [0,0] [(2,I ((JY x3 []).2))] (Jn (Ju (Ju (Jj (QV (Ju (Jj (Jo [0] [I ((JY x3 []).2)] (Jx (Jh _) (congrArg I (?_:(QM c)=((JY x3 []).2)).symm))))))))))
 (rw [JoE hx1 ‹_› ‹_› hx2 (by omega),hn];exact JkN hx3 ‹_›)
 refine Jf (Jd (Jb [0,0,2,0] [(54,U ((JY x3 []).1)),(56,Sl (At b2 o1) c.heads.length c2),(57,I (i:Int))] ?_))
 obtain ⟨x4,hx4⟩:=QS (l:=c.heads) (k:=i) (by omega)
 obtain ⟨_,⟨rfl,_,_,_,_⟩,hc4⟩:=RS.get hs2 hx4
 refine JV (b:=b2) (off:=o1) (len:=c.heads.length) (cap:=c2) (ik:=.i64) 58 43 4 i J4 (Jb [0] [(59,Pt b2 (o1+i*4+1))] (JO 60 41 (cs:=[I x4.epoch,U x4.root,U x4.prev,I x4.at_]) 1 (U x4.root) hc4 (Jb [0,0] [(53,Bo (!decide ((JY x3 []).1=x4.root)))] (Je (Jc (Jl (!decide ((JY x3 []).1=x4.root)) (fun h6=>?_) (fun h6=>?_)))))))
 refine Jg [0] [(2,I 8)] (Jn (Ju (Ju (Jj (QV (Ju (Jj (Jo [0] [I 8] (Jx (Jh _) (congrArg I (?_:(QM c)=8).symm))))))))))
 (rw [JoE hx1 ‹_› ‹_› hx2 (by omega),hn];exact JkO hx3 hx4 ‹_› ‹_›)
 exact Jq (JM (JM (Jc (Jd (Jb [0,0] [(39,I (Hb.wrap ((i:Int)+1)))] (Kp 39 ((i:Int)+1) J4 (Je (Qh (i+1) ⟨J4,(by rw [hn];exact Jjt hx3 hx4 ‹_› ‹_›)⟩ (by (try dsimp only);omega)))))))))
 refine KX (J1 (Kd (JS (Jc (Jg [0] [(2,I 0)] (Jn (Jo [0] [I 0] (Jx (Jh _) (congrArg I (?_:(QM c)=0).symm)))))))))
 (rw [JoE hx1 ‹_› ‹_› hx2 (by omega),hn];(have e_:c.books.drop i=[]:=List.drop_eq_nil_of_le (by omega);rw [e_];simp [YM]))
theorem VL (G:J5) (vs_c:Bv) (c:KT) (h_c:JaH.R G vs_c c) :QZ 152 #[.agg vs_c.toArray] G (I (Kh c)):=by
 obtain ⟨a1,c1,a2,c2,a3,c3,rfl,w1,hs1,w2,w3,w4,hs2,hs3⟩:=h_c
 refine JP Tryz.func152 50 [(0,(QG c a1 c1 a2 c2 a3 c3))] rfl (fun w0 G0=>?_)
 refine Jf (Jd (Jv 1 #[I c.queue.most,Sl a1 c.queue.wait.length c1,I c.batch,I c.every,I c.now,Sl a2 c.heads.length c2,Sl a3 c.books.length c3] 60 (fun b1=>Jb [0] [] (Je (Jc (Jf (Jf (Jd (Jb [0,2] [(8,.agg #[I c.queue.most,Sl a1 c.queue.wait.length c1])] (Jm 9 (I (Ko c.queue)) (JaI G [I c.queue.most,Sl a1 c.queue.wait.length c1] c.queue (⟨a1,c1,rfl,w1,hs1⟩)) (Jb [0] [(3,I (Ko c.queue))] (Je (Jc (Jg [0,0] [(11,Bo (!decide (Ko c.queue=0)))] (Jl (!decide (Ko c.queue=0)) (fun h1=>?_) (fun h1=>?_))))))))))))))))
 refine Jg [0,0] [(2,I (Ko c.queue))] (Jn (Jj (Jo [0] [I (Ko c.queue)] (Jx (Jh _) (congrArg I (?_:(Kh c)=(Ko c.queue)).symm)))))
 · unfold Kh;(rw [if_pos ‹_›];done)
 refine Jq (Jc (Jf (Jf (Jd (Jb [0,2] [(14,I c.batch)] (Jm 15 (Bo (Yn c.batch 30)) (Jbr G c.batch 30) (Jb [0,0] [(17,Bo (!(Yn c.batch 30)))] (QR [17] (!(Yn c.batch 30)) (fun h2=>?_) (fun h2=>?_)))))))))
 refine Jb [1,1,1,1,0,0,1,1,1,0,0,1,1,1,0] [(32,Bo true)] (Je (Jc (J0 (Jg [0] [(2,I 4)] (Jn (Jj (Jo [0] [I 4] (Jx (Jh _) (congrArg I (?_:(Kh c)=4).symm)))))))))
 · unfold Kh;(rw [if_neg (by simp_all)];(rw [if_pos (by (simp_all;done))];done))
 refine Jb [0,2] [(19,I c.every)] (Jm 20 (Bo (Yn c.every 1000)) (Jbr G c.every 1000) (Jb [0,0,0] [(23,Bo (!(Yn c.every 1000)))] (Ks (!(Yn c.every 1000)) [23] [1,1,1,0] [0,2,0,0] (fun bb=>[(27,Bo (bb || (decide (c.now<0))))]) (Jb [0] [(28,Bo ((!(Yn c.every 1000)) || (decide (c.now<0))))] (Ks ((!(Yn c.every 1000)) || (decide (c.now<0))) [28] [1,1,1,0] [0,2,0,0] (fun bb=>[(32,Bo (bb || (decide (c.now > 1000000000))))]) (Je (Jc (Jl (((!(Yn c.every 1000)) || (decide (c.now<0))) || (decide (c.now > 1000000000))) (fun h3=>?_) (fun h3=>?_)))))))))
 refine Jg [0] [(2,I 4)] (Jn (Jj (Jo [0] [I 4] (Jx (Jh _) (congrArg I (?_:(Kh c)=4).symm)))))
 · unfold Kh;(rw [if_neg (by simp_all)];(rw [if_pos (by (simp_all;grind))];done))
 refine Jq (Jc (Jf (Jf (Jd (Jb [0,2] [(35,Sl a2 c.heads.length c2)] (Jm 36 (.tuple #[I ((Ki c.heads).1),I ((Ki c.heads).2)]) (JaN G a2 c2 c.heads hs2) (Jb [0,0,0,0,0] [(4,I ((Ki c.heads).1))] (Je (Jc (Jg [0,0] [(40,Bo (!decide ((Ki c.heads).1=0)))] (Jl (!decide ((Ki c.heads).1=0)) (fun h4=>?_) (fun h4=>?_))))))))))))
 refine Jg [0,0] [(2,I ((Ki c.heads).1))] (Jn (Jj (Jo [0] [I ((Ki c.heads).1)] (Jx (Jh _) (congrArg I (?_:(Kh c)=((Ki c.heads).1)).symm)))))
 · unfold Kh;(rw [if_neg (by simp_all)];(rw [if_neg (by simp_all)];(rw [if_pos (by (simp_all;done))];done)))
 refine Jq (Jc (Jf (Jf (Jd (Jb [2] [(42,(QG c a1 c1 a2 c2 a3 c3))] (Jm 43 (I (QM c)) (Jgd G (KW c a1 c1 a2 c2 a3 c3) c (⟨a1,c1,a2,c2,a3,c3,rfl,w1,hs1,w2,w3,w4,hs2,hs3⟩) (by (have q_:=Qa.1 ‹_›;have q1_:=q_.len1;have q2_:=q_.len;omega)) (by (have q_:=Qa.1 ‹_›;have q1_:=q_.len1;have q2_:=q_.len;omega))) (Jb [0] [(6,I (QM c))] (Je (Jc (Jg [0,0] [(45,Bo (!decide (QM c=0)))] (Jl (!decide (QM c=0)) (fun h5=>?_) (fun h5=>?_))))))))))))
 refine Jg [0,0] [(2,I (QM c))] (Jn (Jj (Jo [0] [I (QM c)] (Jx (Jh _) (congrArg I (?_:(Kh c)=(QM c)).symm)))))
 · unfold Kh;(rw [if_neg (by simp_all)];(rw [if_neg (by simp_all)];(rw [if_neg (by simp_all)];(rw [if_pos (by (simp_all;done))];done))))
 refine Jq (Jc (Jf (Jf (Jd (Jb [2] [(47,(QG c a1 c1 a2 c2 a3 c3))] (Jm 48 (I (Za c ([]))) (Jcb G (KW c a1 c1 a2 c2 a3 c3) c (⟨a1,c1,a2,c2,a3,c3,rfl,w1,hs1,w2,w3,w4,hs2,hs3⟩) none 0 ([]) (J2 ES G) (by (obtain ⟨q1_,q2_,q3_,q4_⟩:=Jfw (c:=c) ‹_› ‹_› ‹_›;assumption)) (by (obtain ⟨q1_,q2_,q3_,q4_⟩:=Jfw (c:=c) ‹_› ‹_› ‹_›;assumption)) (by (obtain ⟨q1_,q2_,q3_,q4_⟩:=Jfw (c:=c) ‹_› ‹_› ‹_›;assumption)) (by (obtain ⟨q1_,q2_,q3_,q4_⟩:=Jfw (c:=c) ‹_› ‹_› ‹_›;assumption)) (by (simp;done))) (Jb [0] [(49,Bo (decide (Za c ([]) > 24)))] (Je (Jc (Jl (decide (Za c ([]) > 24)) (fun h6=>?_) (fun h6=>?_)))))))))))
 refine Jg [0] [(2,I 7)] (Jn (Jj (Jo [0] [I 7] (Jx (Jh _) (congrArg I (?_:(Kh c)=7).symm)))))
 · unfold Kh;(rw [if_neg (by simp_all)];(rw [if_neg (by simp_all)];(rw [if_neg (by simp_all)];(rw [if_neg (by simp_all)];(rw [if_pos (by (simp_all;done))];done)))))
 refine Jq (Jc (Jg [0] [(2,I 0)] (Jn (Jo [0] [I 0] (Jx (Jh _) (congrArg I (?_:(Kh c)=0).symm))))))
 · unfold Kh;(rw [if_neg (by simp_all)];(rw [if_neg (by simp_all)];(rw [if_neg (by simp_all)];(rw [if_neg (by simp_all)];(rw [if_neg (by simp_all)];done)))))
theorem JgW (G:J5) (vs_c:Bv) (c:KT) (h_c:JaH.R G vs_c c) (epoch:Int) (hw_epoch:rI epoch) :YS 193 #[.agg vs_c.toArray,I epoch] G [] (fun u G' L'=>∃ (a1:Ba) (c2:Nat) (r3:Bg),u=.tuple #[Sl a1 (((KH c epoch).1).length) c2,I ((KH c epoch).2)]∧(JR QK G' a1 c2 ((KH c epoch).1) r3)∧L'=[r3]):=by
 obtain ⟨a1,c1,a2,c2,a3,c3,rfl,w1,hs1,w2,w3,w4,hs2,hs3⟩:=h_c
 refine JP Tryz.func193 27 [(0,(QG c a1 c1 a2 c2 a3 c3)),(1,I epoch)] rfl (fun w0 G0=>?_)
 refine Jf (Jd (Jv 2 #[I c.queue.most,Sl a1 c.queue.wait.length c1,I c.batch,I c.every,I c.now,Sl a2 c.heads.length c2,Sl a3 c.books.length c3] 60 (fun b1=>Jb [0,0] [] (Je (Jc (Jf (Jf (Jd (Jb [2] [(7,(QG c a1 c1 a2 c2 a3 c3))] (Jm 8 (I (Kh c)) (VL G (KW c a1 c1 a2 c2 a3 c3) c (⟨a1,c1,a2,c2,a3,c3,rfl,w1,hs1,w2,w3,w4,hs2,hs3⟩)) (Jb [0] [(6,I (Kh c))] (Je (Jc (Jg [0,0] [(10,Bo (!decide (Kh c=0)))] (Jl (!decide (Kh c=0)) (fun h1=>?_) (fun h1=>?_))))))))))))))))
 refine Jg [0,0,0] [(4,Sl none 0 0),(5,I (Kh c))] (Jn (Jj (ZB (Jk 0 ?_))))
 have hf1:KH c epoch=([],Kh c):=by
  unfold KH;simp_all
 refine Jo [0,0] [Sl none 0 0,I (Kh c)] (JD [[]] (Jh _) ?_)
 rw [hf1]
 try dsimp only
 exact ⟨none,0,([]),rfl,(JR.none QK _),rfl⟩
 refine Jq (Jc (Jf (Jf (Jd (Jb [0,0,0] [(14,Bo (decide (epoch<0)))] (Ks (decide (epoch<0)) [14] [1,1,1,1,1,0] [0,0,2,0,0,0] (fun bb=>[(20,Bo (bb || (decide (epoch ≥ (c.books.length:Int)))))]) (Je (Jc (Jl ((decide (epoch<0)) || (decide (epoch ≥ (c.books.length:Int)))) (fun h2=>?_) (fun h2=>?_))))))))))
 refine Jg [0,0] [(4,Sl none 0 0),(5,I 4)] (Jn (Jj (ZB (Jk 0 ?_))))
 have hf2:KH c epoch=([],4):=by
  unfold KH;simp_all
 refine Jo [0,0] [Sl none 0 0,I 4] (JD [[]] (Jh _) ?_)
 rw [hf2]
 try dsimp only
 exact ⟨none,0,([]),rfl,(JR.none QK _),rfl⟩
 refine Jq (Jc (Jf (Jd (Jb [0,2,0] [(22,Sl a3 c.books.length c3),(23,I epoch)] ?_))))
 obtain ⟨kn1,hkn1⟩:∃ k_:Nat,epoch=(k_:Int):=⟨(epoch).toNat,by omega⟩
 have e1:epoch=(kn1:Int):=hkn1
 refine Kv 23 (I (kn1:Int)) (congrArg I e1) ?_
 obtain ⟨b2,o1,rfl⟩:=RS.addr hs3 (k:=kn1) (by omega)
 obtain ⟨x1,hx1⟩:=QS (l:=c.books) (k:=kn1) (by omega)
 obtain ⟨_,⟨a4,c4,rfl,hs4⟩,hc1⟩:=RS.get hs3 hx1
 refine JV (b:=b2) (off:=o1) (len:=c.books.length) (cap:=c3) (ik:=.i64) 24 44 1 kn1 J4 (JO 25 44 (cs:=[Sl a4 x1.length c4]) 0 (Sl a4 x1.length c4) hc1 (JN 26 (YU G a4 c4 x1 hs4) (fun v G1 L1 hl1 hp=>?_)))
 obtain ⟨a5,c5,r1,rfl,hr1,rfl⟩:=hp
 refine Jb [0,0] [(4,Sl a5 x1.length c5),(5,I 0)] (Je (Jc (Jn (Jk 0 ?_))))
 have hf3:KH c epoch=(x1,0):=by
  unfold KH;simp_all
 refine Jo [0,0] [Sl a5 x1.length c5,I 0] (JD [r1] hl1 ?_)
 rw [hf3]
 try dsimp only
 exact ⟨a5,c5,r1,rfl,hr1,rfl⟩
theorem JoG {α:Type} {x b:List α} {i:Nat} {v:α} (h:x.take i=b.take i) (hi:i<x.length) (hv:b[i]? = some v):(x.set i v).take (i+1)=b.take (i+1):=by
 rw [Hj,List.take_set_of_le (Nat.le_refl _),h,Hj,hv,HK hi]
theorem JkQ {α:Type} {x b:List α} {i:Nat} (hl:x.length=b.length) (h:x.take i=b.take i) (hi:b.length≤i):x=b:=by
 rw [Hk (by omega),Hk hi] at h;exact h
def Zs (c:KT):Bool:=decide ((c.heads.length:Int)=40) || decide (c.now=1000000000)
def KE (c:KT) (a:ZD):KT×Int×Int:=if ¬ Kh c=0 then (Yc,0,Kh c) else if ¬ (JT c.queue a).2.2=0∧¬ (JT c.queue a).2.2=7 then (Yc,0,(JT c.queue a).2.2) else if Zs c=true then (Yc,0,9) else if (JT c.queue a).2.2=7∨Za c [a.name] > 24 then (Yc,0,7) else (⟨(JT c.queue a).1,c.batch,c.every,c.now,c.heads,c.books⟩,c.now-c.now.tmod c.every+(Qt (JT c.queue a).2.1 c.batch c.every).1,0)
def JbL (b:List Kc) (l:List ZD):List Kc:=l.foldl (fun b a=>(Qv b a.name a.value).1) b
theorem Jju {b:List Kc} {l:List ZD} {i:Nat} {a:ZD} (h:l[i]? = some a):(Qv (JbL b (l.take i)) a.name a.value).1=JbL b (l.take (i+1)):=by
 unfold JbL;rw [Hj,h];simp [Hz]
def Jac (c:KT):List Kc:=JbL (WB c.books) (J9 c.queue c.batch).2.1
def KV (c:KT):KT×Bool×Int:=if ¬ Kh c=0 then (Yc,false,Kh c) else if Zs c=true then (c,false,0) else if ¬ (c.now+1).tmod c.every=0 then (⟨c.queue,c.batch,c.every,c.now+1,c.heads,c.books⟩,false,0) else (⟨(J9 c.queue c.batch).1,c.batch,c.every,c.now+1,(QD c.heads (JY (Jac c) []).1 (c.now+1)).1,c.books++[Jac c]⟩,true,0)
theorem Jjv {b:List Kc} (h:ZY b):(Qk b).Nodup:=by
 unfold Qk
 refine List.pairwise_map.2 (h.pair.imp fun {x y} hxy e=>?_)
 rw [YI.2 e] at hxy;omega
theorem JbM {b:List Kc} {s:Bb}:s∈Qk b ↔ ∃ x∈b,x.name=s:=by unfold Qk;simp
theorem Z7 {b:List ZD} {s:Bb}:s∈Q7 b ↔ ∃ x∈b,x.name=s:=by unfold Q7;simp
theorem Jjw {b:List Kc} {name value:Bb} (h:ZY b) (hr:KJ name value=0) (hf:name∈Qk b∨b.length<24):(Qv b name value).2=0:=by
 have hp:=(JoB hr).2.2
 have e1:JH b name=((bsF b name Wi).1,(bsF b name Wi).2,0):=by
  unfold JH;rw [if_neg (by rw [Qg.2 h];simp),if_neg (by rw [hp];simp)]
 have e2:Zo b name value=0:=by
  unfold Zo
  rw [e1,if_neg (by simp),if_neg (by rw [hr];simp),if_neg]
  rintro ⟨q1,q2⟩
  rcases hf with hf | hf
  ·
   have:=(Joi h name).2 (JbM.1 hf)
   rw [this] at q1;cases q1
  · omega
 unfold Qv
 rw [if_neg (by omega)]
theorem Jht {b:List Kc} {name value:Bb} (h:(Qv b name value).2=0) {s:Bb}:s∈Qk (Qv b name value).1 ↔ s=name∨s∈Qk b:=by
 obtain ⟨_,_,_,q⟩:=Jc4 h
 rw [JbM,JbM]
 constructor
 ·
  rintro ⟨x,hx,rfl⟩
  rcases (q x).1 hx with e | ⟨e,_⟩
  · exact .inl (by rw [e])
  · exact .inr ⟨x,e,rfl⟩
 ·
  rintro (rfl | ⟨x,hx,rfl⟩)
  · exact ⟨_,(q _).2 (.inl rfl),rfl⟩
  ·
   by_cases e:x.name=name
   · exact ⟨_,(q _).2 (.inl rfl),e.symm⟩
   · exact ⟨x,(q x).2 (.inr ⟨hx,e⟩),rfl⟩
theorem Jm1 {a:ZD} (h:KI a=0):KJ a.name a.value=0:=h
theorem Jhu:∀ (l:List ZD) (b:List Kc),ZY b→(∀ a∈l,KI a=0)→nn (Qk b++Q7 l)≤24 →
  ZY (JbL b l)∧(∀ s,s∈Qk (JbL b l) ↔ s∈Qk b∨s∈Q7 l)
 | [],b,h,_,_=>⟨h,fun s=>by simp [JbL,Q7]⟩
 | a::l,b,h,hr,hn=>by
  have ha:=Jm1 (hr a (by simp))
  have hf:a.name∈Qk b∨b.length<24:=by
   by_cases e:a.name∈Qk b
   · exact .inl e
   ·
    right
    have h1:(a.name::Qk b).Nodup:=List.nodup_cons.2 ⟨e,Jjv h⟩
    have h2:=JoC h1
    have h3:nn (a.name::Qk b)≤nn (Qk b++Q7 (a::l)):=JdN fun x hx=>by
     rcases HA.1 hx with rfl | hx
     · exact Hi.2 (.inr (Z7.2 ⟨a,by simp,rfl⟩))
     · exact Hi.2 (.inl hx)
    simp only [He] at h2
    have:(Qk b).length=b.length:=by simp [Qk]
    omega
  have hs:=Jjw h ha hf
  have hok:=(Jc4 hs).2.2.1
  have hmem:∀ s,s∈Qk (Qv b a.name a.value).1++Q7 l→s∈Qk b++Q7 (a::l):=fun s hs'=>by
   rcases Hi.1 hs' with q | q
   ·
    rcases (Jht hs).1 q with rfl | q
    · exact Hi.2 (.inr (Z7.2 ⟨a,by simp,rfl⟩))
    · exact Hi.2 (.inl q)
   · exact Hi.2 (.inr (by simp only [Q7,HM,HA];exact .inr q))
  obtain ⟨q1,q2⟩:=Jhu l _ hok (fun x hx=>hr x (by simp [hx])) (Hf (JdN hmem) hn)
  refine ⟨q1,fun s=>?_⟩
  show s∈Qk (JbL (Qv b a.name a.value).1 l) ↔ _
  rw [q2 s,Jht hs]
  simp only [Q7,HM,HA]
  constructor
  ·
   rintro ((h | h) | h)
   · exact .inr (.inl h)
   · exact .inl h
   · exact .inr (.inr h)
  ·
   rintro (h | h | h)
   · exact .inl (.inr h)
   · exact .inl (.inl h)
   · exact .inr h
theorem Zr.last {c:KT} (h:Zr c):c.books[c.books.length-1]? = some (WB c.books):=by
 have:=h.len;have:=h.chain.len1
 have hl:c.books.length-1<c.books.length:=by omega
 unfold WB;rw [Hp hl];rfl
theorem Zr.book {c:KT} (h:Zr c) {k:Nat} {x:List Kc} (hx:c.books[k]? = some x):ZY x:=(Jc6 (h.root k x hx).1).1
theorem Zr.bds {c:KT} (h:Zr c):0<c.books.length∧c.books.length≤1000∧(WB c.books).length≤1000∧c.queue.wait.length≤1000∧1≤c.heads.length∧c.heads.length≤40:=by
 have h1:=Qj.1 h.queue
 have:=h.len;have:=h.chain.len1;have:=h.chain.len
 have:=(h.book h.last).len
 omega
theorem ZF {c:KT} (h:Kh c=0):(0<c.books.length∧c.books.length≤1000∧(WB c.books).length≤1000∧c.queue.wait.length≤1000∧1≤c.heads.length∧c.heads.length≤40)∧(0≤c.now∧c.now≤1000000000)∧(1≤c.batch∧c.batch≤30)∧1≤c.every∧c.every≤1000 :=
 let q:=Yo.1 h
 ⟨q.bds,q.now,q.batch,q.every⟩
theorem JeU {c:KT} {a:ZD} (h:(KE c a).2.2=0):Zr c∧(JT c.queue a).2.2=0∧Zs c=false∧nn (Ja3 c [a.name])≤24∧KE c a=(⟨(JT c.queue a).1,c.batch,c.every,c.now,c.heads,c.books⟩,c.now-c.now.tmod c.every+(Qt (JT c.queue a).2.1 c.batch c.every).1,0):=by
 unfold KE at h ⊢
 split at h
 · contradiction
 split at h
 · rename_i h1 h2;exact absurd h h2.1
 split at h
 · cases h
 split at h
 · cases h
 ·
  rename_i h1 h2 h3 h4
  rw [if_neg h1,if_neg h2,if_neg h3,if_neg h4]
  simp only [not_or] at h4
  have h5:=h4.2;unfold Za at h5
  exact ⟨Yo.1 (Hd.1 h1),by apply Decidable.byContradiction;intro hc;exact h2 ⟨hc,h4.1⟩,by simpa using h3,by omega,rfl⟩
theorem Jge {c:KT} {a:ZD} (h:(KE c a).2.2=0):Zr (KE c a).1:=by
 obtain ⟨ok,hq,_,hn,e⟩:=JeU h
 rw [e]
 obtain ⟨_,_,_,e2⟩:=JeL hq
 refine ⟨JfX hq,ok.batch,ok.every,ok.now,ok.chain,ok.first,ok.len,ok.at_,ok.root,?_⟩
 refine Hf (JdN fun x hx=>?_) hn
 unfold Ja3 at hx ⊢
 rw [e2] at hx
 simp only [Q7,List.map_append,HM,List.map_nil,Hi,List.mem_singleton,List.not_mem_nil,or_false] at hx ⊢
 rcases hx with h | h | h
 · exact .inl (.inl h)
 · exact .inl (.inr h)
 · exact .inr h
theorem JoH {c:KT} (h:Zr c) (hc:Zs c=false) {r:Int} (hr:r<2305843009213693951):(QD c.heads r (c.now+1)).2=0∧QD c.heads r (c.now+1)=(c.heads++[(JB (W9 c.heads) r (c.now+1)).1],0)∧(JB (W9 c.heads) r (c.now+1)).2=0:=by
 unfold Zs at hc
 simp only [HC,decide_eq_false_iff_not] at hc
 have hn:=h.now
 have he:(JB (W9 c.heads) r (c.now+1)).2=0:=by
  have hk:JK (W9 c.heads)=0:=h.chain.ok _ (Hr h.chain.last)
  have hl:=h.chain.lastE
  have hf:=h.first
  have hlen:=h.chain.len
  have ha:=h.at_
  have hb:=JaZ (W9 c.heads)
  have hb2:=Zl hk
  unfold JB
  have:YH (W9 c.heads) r (c.now+1)=0:=by
   unfold YH
   rw [if_neg (by omega),if_neg (by omega),if_neg (by omega)]
   unfold JK
   simp only
   rw [if_neg (by omega),if_neg (by omega)]
  rw [if_neg (by omega)]
 have hg:Yb c.heads r (c.now+1)=0:=by
  unfold Yb
  rw [if_neg (by rw [QL.2 h.chain];simp),if_neg (by exact_mod_cast hc.1),he]
 refine ⟨?_,?_,he⟩ <;> (unfold QD;rw [if_neg (by omega)])
theorem JgX (l:List JX) (r t:Int):(QD l r t).1.length≤40:=by
 by_cases h:(QD l r t).2=0
 ·
  obtain ⟨_,h2,_,h4⟩:=JdI h
  rw [h4];simp;omega
 · rw [JgN h];simp
theorem JcM {c:KT} (h:Zr c):(J9 c.queue c.batch).2.2=0∧J9 c.queue c.batch=((⟨c.queue.most,c.queue.wait.drop (Q0 c.batch c.queue.wait)⟩:Q3),c.queue.wait.take (Q0 c.batch c.queue.wait),(0:Int)):=by
 have hq:=h.queue;have hb:=h.batch
 constructor <;> (unfold J9;rw [if_neg (by omega),if_neg (by omega)])
theorem Jjx {c:KT} (h:Zr c):ZY (Jac c)∧(∀ s,s∈Qk (Jac c) ↔ s∈Qk (WB c.books)∨s∈Q7 (c.queue.wait.take (Q0 c.batch c.queue.wait))):=by
 unfold Jac
 rw [(JcM h).2]
 refine Jhu _ _ (h.book h.last) (fun a ha=>(Qj.1 h.queue).2.2.2 a (HD ha)) (Hf (JdN fun x hx=>?_) h.names)
 unfold Ja3
 rcases Hi.1 hx with q | q
 · simp [q]
 ·
  obtain ⟨a,ha,rfl⟩:=Z7.1 q
  have:a.name∈Q7 c.queue.wait:=Z7.2 ⟨a,HD ha,rfl⟩
  simp [this]
theorem JkR (l:List (List Kc)) (x:List Kc):WB (l++[x])=x:=by unfold WB;simp
theorem JkS {l:List JX} (h:1≤l.length) (m:List JX):W2 (l++m)=W2 l:=by
 unfold W2;rw [Hv (by omega)]
theorem JkT (l:List JX) (x:JX):W9 (l++[x])=x:=by unfold W9;simp
structure Ticked (c d:KT):Prop where
 ok:Zr d
 batch:d.batch=c.batch
 every:d.every=c.every
 heads:∃ m,d.heads=c.heads++m
 books:∃ m,d.books=c.books++m
theorem JdQ {c:KT} (h:Zr c):(KV c).2.2=0∧Ticked c (KV c).1:=by
 have h0:=Yo.2 h
 unfold KV
 rw [if_neg (by omega)]
 by_cases h1:Zs c=true
 · rw [if_pos h1];exact ⟨rfl,h,rfl,rfl,⟨[],by simp⟩,⟨[],by simp⟩⟩
 rw [if_neg h1]
 have h1':Zs c=false:=by simpa using h1
 have hnow:c.now+1≤1000000000:=by
  have:=h.now;unfold Zs at h1';simp only [HC,decide_eq_false_iff_not] at h1';omega
 by_cases h2:(c.now+1).tmod c.every=0
 ·
  rw [if_neg (by omega)]
  obtain ⟨t1,t2⟩:=Jjx h
  have hroot:=Jf5 (q:=[]) t1 (by simp) (by simp)
  have hb:=JeT (K9 (Jac c) []) []
  have hr:(JY (Jac c) []).1<2305843009213693951:=by rw [hroot];exact hb.2
  obtain ⟨g1,g2,g3⟩:=JoH h h1' hr
  obtain ⟨k1,k2⟩:=JkK g3
  obtain ⟨u1,u2⟩:=JcM h
  have hlen1:=h.chain.len1
  have hlt:c.heads.length<40:=(JdI g1).2.1
  rw [g2]
  have hbk:=h.len
  have hnx:=(Ja0 g3).2.2.2.1
  refine ⟨rfl,⟨Jfb u1,h.batch,h.every,⟨by have:=h.now;show 0≤c.now+1;omega,hnow⟩,h.chain.snoc hlt k2 k1,?_,?_,?_,?_,?_⟩,rfl,rfl,⟨_,rfl⟩,⟨_,rfl⟩⟩
  · show (W2 (c.heads++_)).epoch=0;rw [JkS hlen1];exact h.first
  · simp only [Hc,He,Hh];omega
  · show (W9 (c.heads++_)).at_≤c.now+1;rw [JkT,hnx];exact Int.le_refl _
  ·
   intro k x hx
   simp only at hx ⊢
   by_cases hk:k<c.books.length
   ·
    rw [Hv hk] at hx
    rw [Hv (by omega)]
    exact h.root k x hx
   ·
    rw [HH (by omega)] at hx
    have hk2:k-c.books.length=0:=by
     have:=(Hq.1 hx).1;simp at this;omega
    rw [hk2] at hx
    simp only [HJ,HN.injEq] at hx
    subst hx
    rw [HH (by omega),show k-c.heads.length=0 by omega]
    refine ⟨by rw [hroot],?_⟩
    show _=(JB _ _ _).1.root
    rw [hnx]
  ·
   refine Hf (JdN fun x hx=>?_) h.names
   unfold Ja3 at hx ⊢
   simp only [JkR,List.append_nil] at hx ⊢
   rw [u2] at hx
   rcases Hi.1 hx with q | q
   ·
    rcases (t2 x).1 q with q | q
    · exact Hi.2 (.inl q)
    ·
     obtain ⟨a,ha,rfl⟩:=Z7.1 q
     exact Hi.2 (.inr (Z7.2 ⟨a,HD ha,rfl⟩))
   ·
    obtain ⟨a,ha,rfl⟩:=Z7.1 q
    exact Hi.2 (.inr (Z7.2 ⟨a,List.mem_of_mem_drop ha,rfl⟩))
 ·
  rw [if_pos h2]
  refine ⟨rfl,⟨h.queue,h.batch,h.every,⟨by have:=h.now;show 0≤c.now+1;omega,hnow⟩,h.chain,h.first,h.len,?_,h.root,h.names⟩,rfl,rfl,⟨[],by simp⟩,⟨[],by simp⟩⟩
  have:=h.at_;show (W9 c.heads).at_≤c.now+1;omega
theorem JcN {c:KT} (h:Zr c):((KV c).1.now=c.now∧Zs c=true)∨(Zs c=false∧(KV c).1.now=c.now+1):=by
 have h0:=Yo.2 h
 unfold KV
 rw [if_neg (by omega)]
 by_cases h1:Zs c=true
 · rw [if_pos h1];exact .inl ⟨rfl,h1⟩
 ·
  rw [if_neg h1]
  refine .inr ⟨by simpa using h1,?_⟩
  split <;> rfl
theorem Jp1 {n e:Int} (h:0≤n):n.tmod e=n % e:=Int.tmod_eq_emod_of_nonneg h
theorem Jat {n e:Int} (h:0≤n) (he:1≤e):0≤n.tmod e∧n.tmod e≤n∧n.tmod e<e:=by
 rw [Jp1 h]
 have h2:=Int.emod_nonneg n (show e ≠ 0 by omega)
 have h3:=Int.emod_lt_of_pos n (show 0<e by omega)
 have h1:=Int.emod_add_mul_ediv n e
 have h4:0≤e*(n / e):=Int.mul_nonneg (by omega) (Int.ediv_nonneg h (by omega))
 omega
theorem Jgf (a b e:Int):0≤(Qt a b e).1∧(Qt a b e).1≤31000:=by
 unfold Qt
 split
 · simp
 ·
  have h1:=Jfp (a:=a) (b:=b) (by omega) (by omega)
  have h2:=Jly (a:=a.tdiv b+1) (b:=e) (by omega) (by omega)
  simp only;omega
theorem JeV (G:J5) (vs_c:Bv) (c:KT) (h_c:JaH.R G vs_c c) :QZ 154 #[.agg vs_c.toArray] G (Bo (Zs c)):=by
 obtain ⟨a1,c1,a2,c2,a3,c3,rfl,_,_,_,_,_,_,_⟩:=h_c
 refine JP Tryz.func154 12 [(0,(QG c a1 c1 a2 c2 a3 c3))] rfl (fun w0 G0=>?_)
 refine Jf (Jd (Jv 1 #[I c.queue.most,Sl a1 c.queue.wait.length c1,I c.batch,I c.every,I c.now,Sl a2 c.heads.length c2,Sl a3 c.books.length c3] 60 (fun b1=>Jb [0] [] (Je (Jc (Jf (Jd (Jb [0,2,0,0,0] [(7,Bo (decide ((c.heads.length:Int)=40)))] (Ks (decide ((c.heads.length:Int)=40)) [7] [1,1,1,0] [0,2,0,0] (fun bb=>[(11,Bo (bb || (decide (c.now=1000000000))))]) (Jb [0] [(2,Bo ((decide ((c.heads.length:Int)=40)) || (decide (c.now=1000000000))))] (Je (Jc (Jn (Jo [0] [Bo ((decide ((c.heads.length:Int)=40)) || (decide (c.now=1000000000)))] (Jx (Jh _) (congrArg Bo (?_:(Zs c)=((decide ((c.heads.length:Int)=40)) || (decide (c.now=1000000000)))).symm))))))))))))))))
 rfl
theorem JeW (G:J5) (vs_c:Bv) (c:KT) (h_c:JaH.R G vs_c c) (hb:c.books.length≤1000):YS 156 #[.agg vs_c.toArray] G [] (fun u G' L'=>∃ (a1:Ba) (c2:Nat) (a3:Ba) (c4:Nat) (a5:Ba),u=.agg #[I c.queue.most,Sl a1 c.queue.wait.length c2,I c.batch,I c.every,I c.now,Sl a3 c.heads.length c4,Sl a5 c.books.length c.books.length]∧(rI c.queue.most)∧(RS Q6 G' a1 c2 c.queue.wait)∧(rI c.batch)∧(rI c.every)∧(rI c.now)∧(RS KO G' a3 c4 c.heads)∧(RS QA G' a5 c.books.length c.books)∧L'=[]):=by
 obtain ⟨a1,c1,a2,c2,a3,c3,rfl,w1,hs1,w2,w3,w4,hs2,hs3⟩:=h_c
 refine JP Tryz.func156 37 [(0,(QG c a1 c1 a2 c2 a3 c3))] rfl (fun w0 G0=>?_)
 refine Jf (Jd (Jv 1 #[I c.queue.most,Sl a1 c.queue.wait.length c1,I c.batch,I c.every,I c.now,Sl a2 c.heads.length c2,Sl a3 c.books.length c3] 60 (fun b1=>Jv 2 #[I 0,Sl none 0 0,I 0,I 0,I 0,Sl none 0 0,Sl none 0 0] 60 (fun b2=>Je (Jc (Jf (Jd (Jb [0,0,4] [(8,Sl a1 c.queue.wait.length c1)] (JN 9 (YV G a1 c1 c.queue.wait hs1) (fun v G1 L1 hl1 hp=>?_))))))))))
 obtain ⟨a4,c4,r1,rfl,hr1,rfl⟩:=hp
 refine JW [0,0,7] [] [r1,[Sg b2 0 [I 0,Sl none 0 0,I 0,I 0,I 0,Sl none 0 0,Sl none 0 0]],[Sg b1 0 (KW c a4 c4 a2 c2 a3 c3)]] (Je (Jc (Jf (Jd (Jb [0,6] [(13,Sl a2 c.heads.length c2)] (JN 14 (VI G1 a2 c2 c.heads (hs2.mono hl1)) (fun v G2 L1 hl2 hp=>?_)))))))
 obtain ⟨a5,c5,r2,rfl,hr2,rfl⟩:=hp
 refine JW [0,9] [] [r2,r1,[Sg b2 0 [I 0,Sl none 0 0,I 0,I 0,I 0,Sl none 0 0,Sl none 0 0]],[Sg b1 0 (KW c a4 c4 a5 c5 a3 c3)]] (Je (Jc (Jf (Jd (Jb [0,8,0] [(18,I (c.books.length:Int))] (Jf9 (E:=QA) (bytes:=24) 19 58 44 c.books.length ([]:List Kc) ⟨rfl,rfl,fun G=>⟨_,_,rfl,J2 QK G⟩⟩ J4 J4 (by kernel_rfl) (fun a6 r3 hr3=>Jb [0] [(3,Sl a6 ((HE c.books.length ([]:List Kc)).length) c.books.length)] (Je (Jc (Jf (Jg [0,10,0,0] [(21,Sl a3 c.books.length c3),(22,I (c.books.length:Int)),(23,I 0)] (Jy ?_))))))))))))
 have hlm_hs3:c.books.length≤9223372036854775807:=Hf (hs3).le (hs3).max
 refine Qc (σ:=Nat×Ba×Nat×Bg×List (List Kc)×J5) (fun q_=>(J5.le G2 q_.2.2.2.2.2)∧(q_.1≤c.books.length)∧(JR QA q_.2.2.2.2.2 q_.2.1 q_.2.2.1 q_.2.2.2.2.1 q_.2.2.2.1)∧(q_.2.2.2.2.1.length=c.books.length∧q_.2.2.2.2.1.take q_.1=c.books.take q_.1)∧(q_.2.2.1=q_.2.2.2.2.1.length)) (fun q_=>[(1,Pt b1 0),(2,Pt b2 0),(3,Sl q_.2.1 q_.2.2.2.2.1.length q_.2.2.1),(21,Sl a3 c.books.length c3),(22,I (c.books.length:Int)),(23,I (q_.1:Int))]) (fun q_=>q_.2.2.2.2.2) (fun q_=>[q_.2.2.2.1,r2,r1,[Sg b2 0 [I 0,Sl none 0 0,I 0,I 0,I 0,Sl none 0 0,Sl none 0 0]],[Sg b1 0 (KW c a4 c4 a5 c5 a3 c3)]]) (fun q_=>c.books.length-q_.1) (0,a6,c.books.length,r3,(HE c.books.length ([]:List Kc)),G2) ⟨(Jh _),(by (try dsimp only);exact Hs _),hr3,⟨by simp,rfl⟩,(by (try dsimp only);simp)⟩ (fun q_ hs=>?_)
 obtain ⟨i,aw,cw,rw,xw,g⟩:=q_
 obtain ⟨hle,hi,hrw,hxw,hcw⟩:=hs
 dsimp only at hle hi hrw hxw hcw
 dsimp only
 refine Jg [0] [(24,Bo (decide ((i:Int)<(c.books.length:Int))))] (Jf (Jl (decide ((i:Int)<(c.books.length:Int))) (fun h1=>?_) (fun h1=>?_)))
 refine Jq (Jc (Jf (Jy (Jf (Jd (Jb [0] [(25,I (i:Int))] ?_))))))
 obtain ⟨b3,o1,rfl⟩:=RS.addr (hs3.mono (Ja (Ja hl1 hl2) hle)) (k:=i) (by omega)
 obtain ⟨x1,hx1⟩:=QS (l:=c.books) (k:=i) (by omega)
 obtain ⟨_,⟨a7,c6,rfl,hs4⟩,hc1⟩:=RS.get (hs3.mono (Ja (Ja hl1 hl2) hle)) hx1
 refine JV (b:=b3) (off:=o1) (len:=c.books.length) (cap:=c3) (ik:=.i64) 26 44 1 i J4 (JO 27 44 (cs:=[Sl a7 x1.length c6]) 0 (Sl a7 x1.length c6) hc1 (Jb [0,0] [(4,I (i:Int)),(5,Sl a7 x1.length c6)] (Je (Jc (Jd (Jb [0,0,0] [(28,Sl aw xw.length cw),(29,I (i:Int)),(30,Sl a7 x1.length c6)] (JN 31 (YU g a7 c6 x1 hs4) (fun v G3 L1 hl3 hp=>?_))))))))
 obtain ⟨a8,c7,_,rfl,hr4,rfl⟩:=hp
 obtain ⟨_,hx2⟩:=QS (l:=xw) (k:=i) (by omega)
 obtain ⟨b4,o2,_,_,⟨_,_,rfl,_⟩,ha1,_,_⟩:=JR.ix (hrw.mono hl3) hx2
 refine Qs (b:=b4) (off:=o2) (len:=xw.length) (cap:=cw) (ik:=.i64) 32 44 1 i ha1 J4 (Wg (E:=QK) 0 hr4 (by exact (hs4).fit) (fun G4 hl4 hs6=>YC (b:=b4) (off:=o2) 1 (hrw.mono (Ja hl3 hl4)) i x1 ha1 J4 (Sl a8 x1.length c7) [Sl a8 x1.length c7] ⟨a8,c7,rfl,hs6⟩ (fun r5 hr5=>?_)))
 have e1:xw.length=(xw.set i x1).length:=(Hw ..).symm
 exact Kv 3 (Sl aw ((xw.set i x1).length) cw) (congrArg (Sl aw · cw) e1) (Kv 28 (Sl aw ((xw.set i x1).length) cw) (congrArg (Sl aw · cw) e1) (Je (JM (Jc (Jd (Jb [0,0] [(23,I (Hb.wrap ((i:Int)+1)))] (Kp 23 ((i:Int)+1) J4 (Je (Qy [r5,r2,r1,[Sg b2 0 [I 0,Sl none 0 0,I 0,I 0,I 0,Sl none 0 0,Sl none 0 0]],[Sg b1 0 (KW c a4 c4 a5 c5 (At b3 o1) c3)]] (Qh (i+1,aw,cw,r5,xw.set i x1,G4) ⟨(Ja hle (Ja hl3 hl4)),J4,hr5,⟨by simp only [Hw];exact hxw.1,JoG hxw.2 J4 hx1⟩,(by simp only [Hw];exact hcw)⟩ (by (try dsimp only);omega)))))))))))
 refine KX (J1 (Kd (JS (Jc (QF [0,0,11] [] [rw,r2,r1,[Sg b2 0 [I 0,Sl none 0 0,I 0,I 0,I 0,Sl none 0 0,Sl none 0 0]],[Sg b1 0 [I c.queue.most,Sl a4 c.queue.wait.length c4,I c.batch,I c.every,I c.now,Sl a5 c.heads.length c5,Sl aw xw.length cw]]] (QF [10,9] [] [rw,r2,r1,[Sg b2 0 [I c.queue.most,Sl a4 c.queue.wait.length c4,I c.batch,I c.every,I c.now,Sl a5 c.heads.length c5,Sl aw xw.length cw]],[Sg b1 0 [I c.queue.most,Sl a4 c.queue.wait.length c4,I c.batch,I c.every,I c.now,Sl a5 c.heads.length c5,Sl aw xw.length cw]]] (Jn ?_)))))))
 subst hcw
 refine Wy (E:=Q6) 2 (hr1.mono (Ja hl2 hle)) (by exact (hs1).fit) (fun G5 hl5 hs7=>Wy (E:=KO) 1 (hr2.mono (Ja hle hl5)) (by exact (hs2.mono hl1).fit) (fun G6 hl6 hs8=>Wy (E:=QA) 0 (hrw.mono (Ja hl5 hl6)) (by simp only [QA];omega) (fun G7 hl7 hs9=>?_)))
 have hf1:c=(⟨c.queue,c.batch,c.every,c.now,c.heads,xw⟩:KT):=by
  have e_:xw=c.books:=JkQ hxw.1 hxw.2 (by omega);subst e_;rfl
 refine Jo [3] [.agg #[I c.queue.most,Sl a4 c.queue.wait.length c4,I c.batch,I c.every,I c.now,Sl a5 c.heads.length c5,Sl aw xw.length xw.length]] (JD [] (Ja (Ja (Ja (Ja (Ja hl1 hl2) hle) hl5) hl6) hl7) ?_)
 rw [hf1]
 try dsimp only
 exact ⟨a4,c4,a5,c5,aw,rfl,w1,(hs7.mono (Ja hl6 hl7)),w2,w3,w4,(hs8.mono hl7),hs9,rfl⟩
theorem JdR (G:J5) (vs_c:Bv) (c:KT) (h_c:JaH.R G vs_c c) (vs_a:Bv) (a:ZD) (h_a:Q6.R G vs_a a) :YS 103 #[.agg vs_c.toArray,.agg vs_a.toArray] G [] (fun u G' L'=>∃ (a1:Ba) (c2:Nat) (a3:Ba) (c4:Nat) (a5:Ba) (c6:Nat),u=.tuple #[.agg #[I (((KE c a).1).queue.most),Sl a1 ((((KE c a).1).queue.wait).length) c2,I (((KE c a).1).batch),I (((KE c a).1).every),I (((KE c a).1).now),Sl a3 ((((KE c a).1).heads).length) c4,Sl a5 ((((KE c a).1).books).length) c6],I ((KE c a).2.1),I ((KE c a).2.2)]∧(rI (((KE c a).1).queue.most))∧(RS Q6 G' a1 c2 (((KE c a).1).queue.wait))∧(rI (((KE c a).1).batch))∧(rI (((KE c a).1).every))∧(rI (((KE c a).1).now))∧(RS KO G' a3 c4 (((KE c a).1).heads))∧(RS QA G' a5 c6 (((KE c a).1).books))∧(rI ((KE c a).2.1))∧L'=[]):=by
 obtain ⟨a1,c1,a2,c2,a3,c3,rfl,w1,hs1,w2,w3,w4,hs2,hs3⟩:=h_c
 obtain ⟨rfl,w5,w6,w7,w8⟩:=h_a
 refine JP Tryz.func103 76 [(0,(QG c a1 c1 a2 c2 a3 c3)),(1,.agg #[Sr a.name,Sr a.value,U a.n,U a.tag])] rfl (fun w0 G0=>?_)
 refine Jf (Jd (Jv 2 #[I c.queue.most,Sl a1 c.queue.wait.length c1,I c.batch,I c.every,I c.now,Sl a2 c.heads.length c2,Sl a3 c.books.length c3] 60 (fun b1=>Jv 3 #[Sr a.name,Sr a.value,U a.n,U a.tag] 182 (fun b2=>Jv 4 #[I 0,Sl none 0 0,I 0,I 0,I 0,Sl none 0 0,Sl none 0 0] 60 (fun b3=>Jb [0,0] [] (Je (Jc (Jf (Jf (Jd (Jb [6] [(13,(QG c a1 c1 a2 c2 a3 c3))] (Jm 14 (I (Kh c)) (VL G (KW c a1 c1 a2 c2 a3 c3) c (⟨a1,c1,a2,c2,a3,c3,rfl,w1,hs1,w2,w3,w4,hs2,hs3⟩)) (Jb [0] [(7,I (Kh c))] (Je (Jc (Jg [0,0] [(16,Bo (!decide (Kh c=0)))] (Jl (!decide (Kh c=0)) (fun h1=>?_) (fun h1=>?_))))))))))))))))))
 refine Jg [0,0,3,0,0] [(5,I 0),(6,I (Kh c))] (Jn (Jj ?_))
 have hf1:KE c a=((⟨(⟨0,[]⟩:Q3),0,0,0,[],[]⟩:KT),0,Kh c):=by
  unfold KE Yc;(rw [if_pos ‹_›];done)
 refine Jo [0,0,0] [.agg #[I 0,Sl none 0 0,I 0,I 0,I 0,Sl none 0 0,Sl none 0 0],I 0,I (Kh c)] (JD [] (Jh _) ?_)
 rw [hf1]
 try dsimp only
 exact ⟨none,0,none,0,none,0,rfl,J4,(J2 Q6 G),J4,J4,J4,(J2 KO G),(J2 QA G),J4,rfl⟩
 refine Jq (Jc (Jf (Jd (Jb [0,6,4] [(21,.agg #[I c.queue.most,Sl a1 c.queue.wait.length c1]),(22,.agg #[Sr a.name,Sr a.value,U a.n,U a.tag])] (JN 23 (Jh3 G [I c.queue.most,Sl a1 c.queue.wait.length c1] c.queue (⟨a1,c1,rfl,w1,hs1⟩) [Sr a.name,Sr a.value,U a.n,U a.tag] a (⟨rfl,w5,w6,w7,w8⟩)) (fun v G1 L1 hl1 hp=>?_))))))
 obtain ⟨a4,c4,rfl,w9,hs4,rfl⟩:=hp
 refine Jb [0,0,0,0] [(24,.agg #[I (((JT c.queue a).1).most),Sl a4 ((((JT c.queue a).1).wait).length) c4]),(25,I ((JT c.queue a).2.1)),(26,I ((JT c.queue a).2.2))] (Jv 8 #[I 0,Sl none 0 0] 57 (fun b4=>JW [3,0,0] [(9,I ((JT c.queue a).2.1)),(10,I ((JT c.queue a).2.2))] [[Sg b4 0 [I (((JT c.queue a).1).most),Sl a4 ((((JT c.queue a).1).wait).length) c4]],[Sg b3 0 [I 0,Sl none 0 0,I 0,I 0,I 0,Sl none 0 0,Sl none 0 0]],[Sg b2 0 [Sr a.name,Sr a.value,U a.n,U a.tag]],[Sg b1 0 (KW c a1 c1 a2 c2 a3 c3)]] (Je (Jc (Jf (Jy (Jf (Jd (Jb [0,0,0] [(30,Bo (!decide ((JT c.queue a).2.2=0)))] (Ks (!decide ((JT c.queue a).2.2=0)) [30] [0,0,0] [1,1,0] (fun bb=>[(33,Bo (bb && (!decide ((JT c.queue a).2.2=7))))]) (Jb [0] [(27,Bo ((!decide ((JT c.queue a).2.2=0)) && (!decide ((JT c.queue a).2.2=7))))] (Je (Jc (Jl ((!decide ((JT c.queue a).2.2=0)) && (!decide ((JT c.queue a).2.2=7))) (fun h2=>?_) (fun h2=>?_)))))))))))))))
 refine Jg [0,0,5,0,0] [(5,I 0),(6,I ((JT c.queue a).2.2))] (Jn (Ju (Jj ?_)))
 have hf2:KE c a=((⟨(⟨0,[]⟩:Q3),0,0,0,[],[]⟩:KT),0,(JT c.queue a).2.2):=by
  unfold KE Yc;(rw [if_neg (by simp_all)];simp_all;done)
 refine Jo [1,0,0] [.agg #[I 0,Sl none 0 0,I 0,I 0,I 0,Sl none 0 0,Sl none 0 0],I 0,I ((JT c.queue a).2.2)] (JD [] hl1 ?_)
 rw [hf2]
 try dsimp only
 exact ⟨none,0,none,0,none,0,rfl,J4,(J2 Q6 G1),J4,J4,J4,(J2 KO G1),(J2 QA G1),J4,rfl⟩
 refine Jf (Jd (Jb [8] [(37,(QG c a1 c1 a2 c2 a3 c3))] (Jm 38 (Bo (Zs c)) (JeV G1 (KW c a1 c1 a2 c2 a3 c3) c (⟨a1,c1,a2,c2,a3,c3,rfl,w1,(hs1.mono hl1),w2,w3,w4,(hs2.mono hl1),(hs3.mono hl1)⟩)) (Jb [0] [(36,Bo (Zs c))] (Je (Jc (Jl (Zs c) (fun h3=>?_) (fun h3=>?_))))))))
 refine Jg [0,5,0,0] [(5,I 0),(6,I 9)] (Jn (Ju (Jj ?_)))
 have hf3:KE c a=((⟨(⟨0,[]⟩:Q3),0,0,0,[],[]⟩:KT),0,9):=by
  unfold KE Yc;(rw [if_neg (by simp_all)];simp_all;done)
 refine Jo [1,0,0] [.agg #[I 0,Sl none 0 0,I 0,I 0,I 0,Sl none 0 0,Sl none 0 0],I 0,I 9] (JD [] hl1 ?_)
 rw [hf3]
 try dsimp only
 exact ⟨none,0,none,0,none,0,rfl,J4,(J2 Q6 G1),J4,J4,J4,(J2 KO G1),(J2 QA G1),J4,rfl⟩
 refine Jf (Jd (Jb [0,0,0] [(43,Bo (decide ((JT c.queue a).2.2=7)))] (QR [43] (decide ((JT c.queue a).2.2=7)) (fun h4=>?_) (fun h4=>?_))))
 refine Jb [1,1,1,1,1,1,0,0] [(40,Bo true)] (Je (Jc (J0 (Jg [0,5,0,0] [(5,I 0),(6,I 7)] (Jn (Ju (Jj ?_)))))))
 have hf4:KE c a=((⟨(⟨0,[]⟩:Q3),0,0,0,[],[]⟩:KT),0,7):=by
  unfold KE Yc;(rw [if_neg (by simp_all)];simp_all;done)
 refine Jo [1,0,0] [.agg #[I 0,Sl none 0 0,I 0,I 0,I 0,Sl none 0 0,Sl none 0 0],I 0,I 7] (JD [] hl1 ?_)
 rw [hf4]
 try dsimp only
 exact ⟨none,0,none,0,none,0,rfl,J4,(J2 Q6 G1),J4,J4,J4,(J2 KO G1),(J2 QA G1),J4,rfl⟩
 refine Jb [8,0,6] [(44,(QG c a1 c1 a2 c2 a3 c3)),(46,Sr a.name)] (Km 47 1 #[Sr a.name] 9 (fun b5=>QI (b:=b5) (o:=0) (cs:=[Sr a.name]) 0 (fun G2 hl2 hz1=>?_)))
 have hs5:RS ES G2 (At b5 0) 1 [a.name]:=RS.lit [[Sr a.name]] [a.name] ⟨⟨rfl,w5⟩,trivial⟩ hz1 (Hg rfl) (Hg rfl)
 refine Jm 48 (I (Za c ([a.name]))) (Jcb G2 (KW c a1 c1 a2 c2 a3 c3) c (⟨a1,c1,a2,c2,a3,c3,rfl,w1,(hs1.mono (Ja hl1 hl2)),w2,w3,w4,(hs2.mono (Ja hl1 hl2)),(hs3.mono (Ja hl1 hl2))⟩) (At b5 0) 1 ([a.name]) hs5 (by (have q_:=ZF ‹_›;(try dsimp only);omega)) (by (have q_:=ZF ‹_›;(try dsimp only);omega)) (by (have q_:=ZF ‹_›;(try dsimp only);omega)) (by (have q_:=ZF ‹_›;(try dsimp only);omega)) (by (simp;done))) (Jb [0,0,0] [(40,Bo (decide (Za c ([a.name]) > 24)))] (Je (Jc (Jl (decide (Za c ([a.name]) > 24)) (fun h5=>?_) (fun h5=>?_)))))
 refine Jg [0,7,0,0] [(5,I 0),(6,I 7)] (Jn (Ju (Jj ?_)))
 have hf5:KE c a=((⟨(⟨0,[]⟩:Q3),0,0,0,[],[]⟩:KT),0,7):=by
  unfold KE Yc;(rw [if_neg (by simp_all)];simp_all;done)
 refine Jo [2,0,0] [.agg #[I 0,Sl none 0 0,I 0,I 0,I 0,Sl none 0 0,Sl none 0 0],I 0,I 7] (JD [] (Ja hl1 hl2) ?_)
 rw [hf5]
 try dsimp only
 exact ⟨none,0,none,0,none,0,rfl,J4,(J2 Q6 G2),J4,J4,J4,(J2 KO G2),(J2 QA G2),J4,rfl⟩
 refine Jq (JM (Jc (Jf (Jd (Jb [10] [(52,(QG c a1 c1 a2 c2 a3 c3))] (JN 53 (JeW G2 (KW c a1 c1 a2 c2 a3 c3) c (⟨a1,c1,a2,c2,a3,c3,rfl,w1,(hs1.mono (Ja hl1 hl2)),w2,w3,w4,(hs2.mono (Ja hl1 hl2)),(hs3.mono (Ja hl1 hl2))⟩) (by (have q_:=ZF ‹_›;(try dsimp only);omega))) (fun v G3 L1 hl3 hp=>?_)))))))
 obtain ⟨a5,c5,a6,c6,a7,rfl,_,_,w11,w12,w13,hs7,hs8,rfl⟩:=hp
 refine JW [11] [] [[],[Sg b4 0 [I (((JT c.queue a).1).most),Sl a4 ((((JT c.queue a).1).wait).length) c4]],[Sg b3 0 [I 0,Sl none 0 0,I 0,I 0,I 0,Sl none 0 0,Sl none 0 0]],[Sg b2 0 [Sr a.name,Sr a.value,U a.n,U a.tag]],[Sg b1 0 (KW c a5 c5 a6 c6 a7 c.books.length)]] (Je (Jc (QF [4,0,11] [] [[],[Sg b4 0 [I (((JT c.queue a).1).most),Sl a4 ((((JT c.queue a).1).wait).length) c4]],[Sg b3 0 [I 0,Sl none 0 0,I 0,I 0,I 0,Sl none 0 0,Sl none 0 0]],[Sg b2 0 [Sr a.name,Sr a.value,U a.n,U a.tag]],[Sg b1 0 [I (((JT c.queue a).1).most),Sl a4 ((((JT c.queue a).1).wait).length) c4,I c.batch,I c.every,I c.now,Sl a6 c.heads.length c6,Sl a7 c.books.length c.books.length]]] (Jf (Jd (Jb [0,0,10,0,10] [(57,I ((JT c.queue a).2.1)),(59,I c.batch),(61,I c.every)] (Jm 62 (.tuple #[I ((Qt ((JT c.queue a).2.1) c.batch c.every).1),I ((Qt ((JT c.queue a).2.1) c.batch c.every).2)]) (JgI G3 ((JT c.queue a).2.1) c.batch c.every) (Jb [0,0,0,0,0] [(11,I ((Qt ((JT c.queue a).2.1) c.batch c.every).1))] (Je (Jc (Jf ?_)))))))))))
 have e1:Hb.wrap (c.now-((c.now).tmod c.every))=c.now-((c.now).tmod c.every):=Ho _ (by (have q_:=ZF ‹_›;have q10_:=Jat (n:=c.now) (e:=c.every) (by omega) (by omega);have q11_:=Jgf (JT c.queue a).2.1 c.batch c.every;omega))
 have e2:Hb.wrap ((c.now-((c.now).tmod c.every))+((Qt ((JT c.queue a).2.1) c.batch c.every).1))=(c.now-((c.now).tmod c.every))+((Qt ((JT c.queue a).2.1) c.batch c.every).1):=Ho _ (by (have q_:=ZF ‹_›;have q10_:=Jat (n:=c.now) (e:=c.every) (by omega) (by omega);have q11_:=Jgf (JT c.queue a).2.1 c.batch c.every;omega))
 refine Kt [11] (Wm [(0,.agg #[I (((JT c.queue a).1).most),Sl a4 ((((JT c.queue a).1).wait).length) c4,I c.batch,I c.every,I c.now,Sl a6 c.heads.length c6,Sl a7 c.books.length c.books.length]),(1,Pt b1 4),(2,I c.now),(3,Pt b1 4),(4,I c.now),(5,Pt b1 3),(6,I c.every),(7,I ((c.now).tmod c.every)),(8,I (c.now-((c.now).tmod c.every))),(9,I ((Qt ((JT c.queue a).2.1) c.batch c.every).1)),(10,I ((c.now-((c.now).tmod c.every))+((Qt ((JT c.queue a).2.1) c.batch c.every).1)))] (JF [] [(0,10),(1,0),(2,10),(3,0),(4,10),(5,0),(6,10),(9,0)] [7,8,10] [11] (Kf ?_ (Kf ?_ (Kf ?_ KY))) (Kf ?_ KY)))
 refine Jr 7 72 (I ((c.now).tmod c.every)) [(69,I c.now),(71,I c.every)] (fun X=>?_)
 exact Jdn (k:=.i64) (x:=c.now) (y:=c.every) 72 false ((c.now).tmod c.every) (by (have q_:=ZF ‹_›;have q10_:=Jat (n:=c.now) (e:=c.every) J4 (by omega);have q11_:=Jgf (JT c.queue a).2.1 c.batch c.every;omega)) rfl Jp
 refine Jr 8 73 (I (c.now-((c.now).tmod c.every))) [(67,I c.now),(72,I ((c.now).tmod c.every))] (fun X=>?_)
 exact K5 73 (I (Hb.wrap (c.now-((c.now).tmod c.every)))) (I (c.now-((c.now).tmod c.every))) (by simp only [e1]) Jp
 refine Jr 10 75 (I ((c.now-((c.now).tmod c.every))+((Qt ((JT c.queue a).2.1) c.batch c.every).1))) [(73,I (c.now-((c.now).tmod c.every))),(74,I ((Qt ((JT c.queue a).2.1) c.batch c.every).1))] (fun X=>?_)
 exact K5 75 (I (Hb.wrap ((c.now-((c.now).tmod c.every))+((Qt ((JT c.queue a).2.1) c.batch c.every).1)))) (I ((c.now-((c.now).tmod c.every))+((Qt ((JT c.queue a).2.1) c.batch c.every).1))) (by simp only [e2]) Jp
 refine Jz 11 [(4,Pt b3 0),(65,.agg #[I (((JT c.queue a).1).most),Sl a4 ((((JT c.queue a).1).wait).length) c4,I c.batch,I c.every,I c.now,Sl a6 c.heads.length c6,Sl a7 c.books.length c.books.length])] (fun X=>?_)
 refine KC 2 [[],[Sg b4 0 [I (((JT c.queue a).1).most),Sl a4 ((((JT c.queue a).1).wait).length) c4]],[Sg b3 0 [I (((JT c.queue a).1).most),Sl a4 ((((JT c.queue a).1).wait).length) c4,I c.batch,I c.every,I c.now,Sl a6 c.heads.length c6,Sl a7 c.books.length c.books.length]],[Sg b2 0 [Sr a.name,Sr a.value,U a.n,U a.tag]],[Sg b1 0 [I (((JT c.queue a).1).most),Sl a4 ((((JT c.queue a).1).wait).length) c4,I c.batch,I c.every,I c.now,Sl a6 c.heads.length c6,Sl a7 c.books.length c.books.length]]] ?_
 have e3:Hb.wrap (c.now-((c.now).tmod c.every))=c.now-((c.now).tmod c.every):=Ho _ (by (have q_:=ZF ‹_›;have q10_:=Jat (n:=c.now) (e:=c.every) (by omega) (by omega);have q11_:=Jgf (JT c.queue a).2.1 c.batch c.every;omega))
 have e4:Hb.wrap ((c.now-((c.now).tmod c.every))+((Qt ((JT c.queue a).2.1) c.batch c.every).1))=(c.now-((c.now).tmod c.every))+((Qt ((JT c.queue a).2.1) c.batch c.every).1):=Ho _ (by (have q_:=ZF ‹_›;have q10_:=Jat (n:=c.now) (e:=c.every) (by omega) (by omega);have q11_:=Jgf (JT c.queue a).2.1 c.batch c.every;omega))
 refine J6 [(12,I ((c.now-((c.now).tmod c.every))+((Qt ((JT c.queue a).2.1) c.batch c.every).1))),(13,I 0)] (Kl [0] [(1,0),(2,10),(3,0),(4,10),(5,0),(6,10),(9,0),(12,0),(13,0)] [7,8,10] [(4,Pt b3 0),(5,I ((c.now-((c.now).tmod c.every))+((Qt ((JT c.queue a).2.1) c.batch c.every).1))),(6,I 0)] (Kf ?_ (Kf ?_ (Kf ?_ KY))) ?_)
 refine Jr 7 72 (I ((c.now).tmod c.every)) [(69,I c.now),(71,I c.every)] (fun X=>?_)
 exact Jdn (k:=.i64) (x:=c.now) (y:=c.every) 72 false ((c.now).tmod c.every) (by (have q_:=ZF ‹_›;have q10_:=Jat (n:=c.now) (e:=c.every) J4 (by omega);have q11_:=Jgf (JT c.queue a).2.1 c.batch c.every;omega)) rfl Jp
 refine Jr 8 73 (I (c.now-((c.now).tmod c.every))) [(67,I c.now),(72,I ((c.now).tmod c.every))] (fun X=>?_)
 exact K5 73 (I (Hb.wrap (c.now-((c.now).tmod c.every)))) (I (c.now-((c.now).tmod c.every))) (by simp only [e3]) Jp
 refine Jr 10 75 (I ((c.now-((c.now).tmod c.every))+((Qt ((JT c.queue a).2.1) c.batch c.every).1))) [(73,I (c.now-((c.now).tmod c.every))),(74,I ((Qt ((JT c.queue a).2.1) c.batch c.every).1))] (fun X=>?_)
 exact K5 75 (I (Hb.wrap ((c.now-((c.now).tmod c.every))+((Qt ((JT c.queue a).2.1) c.batch c.every).1)))) (I ((c.now-((c.now).tmod c.every))+((Qt ((JT c.queue a).2.1) c.batch c.every).1))) (by simp only [e4]) Jp
 refine Jc (Jn ?_)
 have hf6:KE c a=((⟨((JT c.queue a).1),c.batch,c.every,c.now,c.heads,c.books⟩:KT),(c.now-((c.now).tmod c.every))+((Qt ((JT c.queue a).2.1) c.batch c.every).1),0):=by
  unfold KE Yc;(rw [if_neg (by simp_all)];simp_all;done)
 refine Jo [2,0,0] [.agg #[I (((JT c.queue a).1).most),Sl a4 ((((JT c.queue a).1).wait).length) c4,I c.batch,I c.every,I c.now,Sl a6 c.heads.length c6,Sl a7 c.books.length c.books.length],I ((c.now-((c.now).tmod c.every))+((Qt ((JT c.queue a).2.1) c.batch c.every).1)),I 0] (JD [] (Ja (Ja hl1 hl2) hl3) ?_)
 rw [hf6]
 try dsimp only
 exact ⟨a4,c4,a6,c6,a7,c.books.length,rfl,w9,(hs4.mono (Ja hl2 hl3)),w11,w12,w13,hs7,hs8,(by (have q_:=ZF ‹_›;have q10_:=Jat (n:=c.now) (e:=c.every) J4 (by omega);have q11_:=Jgf (JT c.queue a).2.1 c.batch c.every;omega)),rfl⟩
set_option maxRecDepth 20000 in
theorem JgY (G:J5) (vs_c:Bv) (c:KT) (h_c:JaH.R G vs_c c) :YS 110 #[.agg vs_c.toArray] G [] (fun u G' L'=>∃ (a1:Ba) (c2:Nat) (a3:Ba) (c4:Nat) (a5:Ba) (c6:Nat),u=.tuple #[.agg #[I (((KV c).1).queue.most),Sl a1 ((((KV c).1).queue.wait).length) c2,I (((KV c).1).batch),I (((KV c).1).every),I (((KV c).1).now),Sl a3 ((((KV c).1).heads).length) c4,Sl a5 ((((KV c).1).books).length) c6],Bo ((KV c).2.1),I ((KV c).2.2)]∧(rI (((KV c).1).queue.most))∧(RS Q6 G' a1 c2 (((KV c).1).queue.wait))∧(rI (((KV c).1).batch))∧(rI (((KV c).1).every))∧(rI (((KV c).1).now))∧(RS KO G' a3 c4 (((KV c).1).heads))∧(RS QA G' a5 c6 (((KV c).1).books))∧L'=[]):=by
 obtain ⟨a1,c1,a2,c2,a3,c3,rfl,w1,hs1,w2,w3,w4,hs2,hs3⟩:=h_c
 refine JP Tryz.func110 88 [(0,(QG c a1 c1 a2 c2 a3 c3))] rfl (fun w0 G0=>?_)
 refine Jf (Jd (Jv 1 #[I c.queue.most,Sl a1 c.queue.wait.length c1,I c.batch,I c.every,I c.now,Sl a2 c.heads.length c2,Sl a3 c.books.length c3] 60 (fun b1=>Jv 2 #[I 0,Sl none 0 0,I 0,I 0,I 0,Sl none 0 0,Sl none 0 0] 60 (fun b2=>Jb [0,0] [] (Je (Jc (Jf (Jf (Jd (Jb [4] [(14,(QG c a1 c1 a2 c2 a3 c3))] (Jm 15 (I (Kh c)) (VL G (KW c a1 c1 a2 c2 a3 c3) c (⟨a1,c1,a2,c2,a3,c3,rfl,w1,hs1,w2,w3,w4,hs2,hs3⟩)) (Jb [0] [(5,I (Kh c))] (Je (Jc (Jg [0,0] [(17,Bo (!decide (Kh c=0)))] (Jl (!decide (Kh c=0)) (fun h1=>?_) (fun h1=>?_)))))))))))))))))
 refine Jg [0,0,3,0,0] [(3,Bo false),(4,I (Kh c))] (Jn (Jj ?_))
 have hf1:KV c=((⟨(⟨0,[]⟩:Q3),0,0,0,[],[]⟩:KT),false,Kh c):=by
  unfold KV Yc;(rw [if_pos ‹_›];done)
 refine Jo [0,0,0] [.agg #[I 0,Sl none 0 0,I 0,I 0,I 0,Sl none 0 0,Sl none 0 0],Bo false,I (Kh c)] (JD [] (Jh _) ?_)
 rw [hf1]
 try dsimp only
 exact ⟨none,0,none,0,none,0,rfl,J4,(J2 Q6 G),J4,J4,J4,(J2 KO G),(J2 QA G),rfl⟩
 refine Jq (Jc (Jf (Jd (Jb [4] [(20,(QG c a1 c1 a2 c2 a3 c3))] (JN 21 (JeW G (KW c a1 c1 a2 c2 a3 c3) c (⟨a1,c1,a2,c2,a3,c3,rfl,w1,hs1,w2,w3,w4,hs2,hs3⟩) (by (have q_:=ZF ‹_›;(try dsimp only);omega))) (fun v G1 L1 hl1 hp=>?_))))))
 obtain ⟨a4,c4,a5,c5,a6,rfl,w5,hs4,w6,w7,w8,hs5,hs6,rfl⟩:=hp
 refine JW [5] [] [[Sg b2 0 [I 0,Sl none 0 0,I 0,I 0,I 0,Sl none 0 0,Sl none 0 0]],[Sg b1 0 (KW c a4 c4 a5 c5 a6 c.books.length)]] (Je (Jc (Jf (Jf (Jd (Jb [4] [(22,(QG c a4 c4 a5 c5 a6 c.books.length))] (Jm 23 (Bo (Zs c)) (JeV G1 (KW c a4 c4 a5 c5 a6 c.books.length) c (⟨a4,c4,a5,c5,a6,c.books.length,rfl,w5,hs4,w6,w7,w8,hs5,hs6⟩)) (Je (Jc (Jl (Zs c) (fun h2=>?_) (fun h2=>?_)))))))))))
 refine QF [4,3,0,0] [(3,Bo false),(4,I 0)] [[Sg b2 0 (KW c a4 c4 a5 c5 a6 c.books.length)],[Sg b1 0 (KW c a4 c4 a5 c5 a6 c.books.length)]] (Jn (Jj ?_))
 have hf2:KV c=(c,false,0):=by
  unfold KV Yc;(rw [if_neg (by simp_all)];(rw [if_pos ‹_›];done))
 refine Jo [0,0,0] [(QG c a4 c4 a5 c5 a6 c.books.length),Bo false,I 0] (JD [] hl1 ?_)
 rw [hf2]
 try dsimp only
 exact ⟨a4,c4,a5,c5,a6,c.books.length,rfl,w5,hs4,w6,w7,w8,hs5,hs6,rfl⟩
 refine Jq (Jc (QF [0,4,0,0,5] [] [[Sg b2 0 [I 0,Sl none 0 0,I 0,I 0,I 0,Sl none 0 0,Sl none 0 0]],[Sg b1 0 [I c.queue.most,Sl a4 c.queue.wait.length c4,I c.batch,I c.every,I (Hb.wrap (c.now+1)),Sl a5 c.heads.length c5,Sl a6 c.books.length c.books.length]]] ?_))
 have e1:Hb.wrap (c.now+1)=c.now+1:=Ho _ (by (have q_:=ZF ‹_›;have q10_:=Jat (n:=c.now+1) (e:=c.every) (by omega) (by omega);omega))
 refine JcY (L':=[[Sg b2 0 [I 0,Sl none 0 0,I 0,I 0,I 0,Sl none 0 0,Sl none 0 0]],[Sg b1 0 [I c.queue.most,Sl a4 c.queue.wait.length c4,I c.batch,I c.every,I (c.now+1),Sl a5 c.heads.length c5,Sl a6 c.books.length c.books.length]]]) (by simp only [KW,QG,e1];first | done | rfl) ?_
 clear e1
 refine Jf (Jf (Jd (Jb [0,4,0,4] [(30,I (c.now+1)),(32,I c.every)] (Jdn (k:=.i64) (x:=c.now+1) (y:=c.every) 33 false ((c.now+1).tmod c.every) (by (have q_:=ZF ‹_›;have q10_:=Jat (n:=c.now+1) (e:=c.every) J4 (by omega);omega)) rfl (Jb [0] [(34,Bo (!decide ((c.now+1).tmod c.every=0)))] (Je (Jc (Jl (!decide ((c.now+1).tmod c.every=0)) (fun h3=>?_) (fun h3=>?_)))))))))
 refine QF [4,3,0,0] [(3,Bo false),(4,I 0)] [[Sg b2 0 [I c.queue.most,Sl a4 c.queue.wait.length c4,I c.batch,I c.every,I (c.now+1),Sl a5 c.heads.length c5,Sl a6 c.books.length c.books.length]],[Sg b1 0 [I c.queue.most,Sl a4 c.queue.wait.length c4,I c.batch,I c.every,I (c.now+1),Sl a5 c.heads.length c5,Sl a6 c.books.length c.books.length]]] (Jn (Jj ?_))
 have hf3:KV c=((⟨c.queue,c.batch,c.every,c.now+1,c.heads,c.books⟩:KT),false,0):=by
  unfold KV Yc;(rw [if_neg (by simp_all)];(rw [if_neg (by simp_all)];(rw [if_pos ‹_›];done)))
 refine Jo [0,0,0] [.agg #[I c.queue.most,Sl a4 c.queue.wait.length c4,I c.batch,I c.every,I (c.now+1),Sl a5 c.heads.length c5,Sl a6 c.books.length c.books.length],Bo false,I 0] (JD [] hl1 ?_)
 rw [hf3]
 try dsimp only
 exact ⟨a4,c4,a5,c5,a6,c.books.length,rfl,‹_›,hs4,‹_›,‹_›,(by have q_:=ZF ‹_›;(try dsimp only);omega),hs5,hs6,rfl⟩
 refine Jq (Jc (Jf (Jd (Jb [0,4,0,4] [(38,.agg #[I c.queue.most,Sl a4 c.queue.wait.length c4]),(40,I c.batch)] (JN 41 (JgH G1 [I c.queue.most,Sl a4 c.queue.wait.length c4] c.queue (⟨a4,c4,rfl,‹_›,hs4⟩) c.batch) (fun v G2 L1 hl2 hp=>?_))))))
 obtain ⟨a7,c6,a8,c7,rfl,w9,hs7,hs8,rfl⟩:=hp
 refine Jb [0,0,0,0] [(42,.agg #[I (((J9 c.queue c.batch).1).most),Sl a7 ((((J9 c.queue c.batch).1).wait).length) c6]),(43,Sl a8 (((J9 c.queue c.batch).2.1).length) c7),(44,I ((J9 c.queue c.batch).2.2))] (Jv 6 #[I 0,Sl none 0 0] 57 (fun b3=>JW [3,0,0] [(7,Sl a8 (((J9 c.queue c.batch).2.1).length) c7)] [[Sg b3 0 [I (((J9 c.queue c.batch).1).most),Sl a7 ((((J9 c.queue c.batch).1).wait).length) c6]],[Sg b2 0 [I 0,Sl none 0 0,I 0,I 0,I 0,Sl none 0 0,Sl none 0 0]],[Sg b1 0 [I c.queue.most,Sl a4 c.queue.wait.length c4,I c.batch,I c.every,I (c.now+1),Sl a5 c.heads.length c5,Sl a6 c.books.length c.books.length]]] (Je (Jc (Jf (Jd (Jb [6] [(45,.agg #[I c.queue.most,Sl a4 c.queue.wait.length c4,I c.batch,I c.every,I (c.now+1),Sl a5 c.heads.length c5,Sl a6 c.books.length c.books.length])] (JN 46 (Jgc G2 [I c.queue.most,Sl a4 c.queue.wait.length c4,I c.batch,I c.every,I (c.now+1),Sl a5 c.heads.length c5,Sl a6 c.books.length c.books.length] (⟨c.queue,c.batch,c.every,c.now+1,c.heads,c.books⟩:KT) (⟨a4,c4,a5,c5,a6,c.books.length,rfl,‹_›,(hs4.mono hl2),‹_›,‹_›,(by have q_:=ZF ‹_›;(try dsimp only);omega),(hs5.mono hl2),(hs6.mono hl2)⟩) (by (have q_:=ZF ‹_›;(try dsimp only);omega)) (by (have q_:=ZF ‹_›;(try dsimp only);omega))) (fun v G3 L1 hl3 hp=>?_)))))))))
 obtain ⟨a9,c8,rfl,hs9,rfl⟩:=hp
 refine JN 47 (YU G3 a9 c8 (WB (⟨c.queue,c.batch,c.every,c.now+1,c.heads,c.books⟩:KT).books) hs9) (fun v G4 L1 hl4 hp=>?_)
 obtain ⟨a10,c9,r1,rfl,hr1,rfl⟩:=hp
 refine Jb [0] [(9,Sl a10 ((WB (⟨c.queue,c.batch,c.every,c.now+1,c.heads,c.books⟩:KT).books).length) c9)] (Je (Jc (Jf (Jg [0,0,0] [(48,Sl a8 (((J9 c.queue c.batch).2.1).length) c7),(49,I (((J9 c.queue c.batch).2.1).length:Int)),(50,I 0)] (Jy ?_)))))
 have hlm_hs8:((J9 c.queue c.batch).2.1).length≤9223372036854775807:=Hf (hs8).le (hs8).max
 refine Qc (σ:=Nat×Ba×Nat×Bg×List Kc×J5) (fun q_=>(J5.le G4 q_.2.2.2.2.2)∧(q_.1≤((J9 c.queue c.batch).2.1).length)∧(JR QK q_.2.2.2.2.2 q_.2.1 q_.2.2.1 q_.2.2.2.2.1 q_.2.2.2.1)∧(q_.2.2.2.2.1=JbL (WB c.books) ((J9 c.queue c.batch).2.1.take q_.1)∧q_.2.2.2.2.1.length≤1000)) (fun q_=>[(1,Pt b1 0),(2,Pt b2 0),(6,Pt b3 0),(9,Sl q_.2.1 q_.2.2.2.2.1.length q_.2.2.1),(48,Sl a8 (((J9 c.queue c.batch).2.1).length) c7),(49,I (((J9 c.queue c.batch).2.1).length:Int)),(50,I (q_.1:Int))]) (fun q_=>q_.2.2.2.2.2) (fun q_=>[q_.2.2.2.1,[Sg b3 0 [I (((J9 c.queue c.batch).1).most),Sl a7 ((((J9 c.queue c.batch).1).wait).length) c6]],[Sg b2 0 [I 0,Sl none 0 0,I 0,I 0,I 0,Sl none 0 0,Sl none 0 0]],[Sg b1 0 [I c.queue.most,Sl a4 c.queue.wait.length c4,I c.batch,I c.every,I (c.now+1),Sl a5 c.heads.length c5,Sl a6 c.books.length c.books.length]]]) (fun q_=>((J9 c.queue c.batch).2.1).length-q_.1) (0,a10,c9,r1,WB (⟨c.queue,c.batch,c.every,c.now+1,c.heads,c.books⟩:KT).books,G4) ⟨(Jh _),(by (try dsimp only);exact Hs _),hr1,⟨rfl,by have q_:=ZF ‹_›;(try dsimp only);omega⟩⟩ (fun q_ hs=>?_)
 obtain ⟨i,aw,cw,rw,xw,g⟩:=q_
 obtain ⟨hle,hi,hrw,hxw⟩:=hs
 dsimp only at hle hi hrw hxw
 dsimp only
 refine Jg [0] [(51,Bo (decide ((i:Int)<(((J9 c.queue c.batch).2.1).length:Int))))] (Jf (Jl (decide ((i:Int)<(((J9 c.queue c.batch).2.1).length:Int))) (fun h4=>?_) (fun h4=>?_)))
 refine Jq (Jc (Jf (Jy (Jf (Jd ?_)))))
 obtain ⟨b4,o1,rfl⟩:=RS.addr (hs8.mono (Ja (Ja hl3 hl4) hle)) (k:=i) (by omega)
 obtain ⟨x1,hx1⟩:=QS (l:=(J9 c.queue c.batch).2.1) (k:=i) (by omega)
 obtain ⟨_,⟨rfl,w10,w11,_,_⟩,hc1⟩:=RS.get (hs8.mono (Ja (Ja hl3 hl4) hle)) hx1
 refine JV (b:=b4) (off:=o1) (len:=((J9 c.queue c.batch).2.1).length) (cap:=c7) (ik:=.i64) 52 182 4 i J4 (JO 53 182 (cs:=[Sr x1.name,Sr x1.value,U x1.n,U x1.tag]) 0 (.agg #[Sr x1.name,Sr x1.value,U x1.n,U x1.tag]) hc1 (Jv 11 #[Sr ([]),Sr ([]),U 0,U 0] 182 (fun b5=>JW [3] [] [[Sg b5 0 [Sr x1.name,Sr x1.value,U x1.n,U x1.tag]],rw,[Sg b3 0 [I (((J9 c.queue c.batch).1).most),Sl a7 ((((J9 c.queue c.batch).1).wait).length) c6]],[Sg b2 0 [I 0,Sl none 0 0,I 0,I 0,I 0,Sl none 0 0,Sl none 0 0]],[Sg b1 0 [I c.queue.most,Sl a4 c.queue.wait.length c4,I c.batch,I c.every,I (c.now+1),Sl a5 c.heads.length c5,Sl a6 c.books.length c.books.length]]] (Je (Jc (Jd (Jb [0,0,2,0,2] [(55,Sl aw xw.length cw),(57,Sr x1.name),(59,Sr x1.value)] (Wg (E:=QK) 1 hrw (by (have q0_:=hxw.2;simp only [QK];omega)) (fun G5 hl5 hs10=>JN 60 (Jje G5 aw cw xw hs10 x1.name w10 x1.value w11) (fun v G6 L1 hl6 hp=>?_))))))))))
 obtain ⟨a11,c10,r2,rfl,hr2,rfl⟩:=hp
 refine Jb [0,0,0,0] [(9,Sl a11 (((Qv xw x1.name x1.value).1).length) c10)] (Je (JM (Jc (Jd (Jb [0,0] [(50,I (Hb.wrap ((i:Int)+1)))] (Kp 50 ((i:Int)+1) J4 (Je (Jk 0 (Jk 1 (Jk 2 ?_))))))))))
 exact Qy [r2,[Sg b3 0 [I (((J9 c.queue c.batch).1).most),Sl a7 ((((J9 c.queue c.batch).1).wait).length) c6]],[Sg b2 0 [I 0,Sl none 0 0,I 0,I 0,I 0,Sl none 0 0,Sl none 0 0]],[Sg b1 0 [I c.queue.most,Sl a4 c.queue.wait.length c4,I c.batch,I c.every,I (c.now+1),Sl a5 c.heads.length c5,Sl a6 c.books.length c.books.length]]] (Qh (i+1,a11,c10,r2,(Qv xw x1.name x1.value).1,G6) ⟨(Ja hle (Ja hl5 hl6)),J4,hr2,⟨by rw [hxw.1];exact Jju hx1,Hf (Jjd _ _ _) (by decide)⟩⟩ (by (try dsimp only);omega))
 refine KX (J1 (Kd (JS (Jc (Jf (Jd (Jb [0] [(65,Sl aw xw.length cw)] (Wg (E:=QK) 0 hrw (by (have q0_:=hxw.2;simp only [QK];omega)) (fun G7 hl7 hs11=>Jm 66 (.tuple #[U ((JY xw []).1),I ((JY xw []).2)]) (JbH G7 aw cw xw hs11) (Jb [0,0,0,0,0] [(12,U ((JY xw []).1))] (Je (Jc (Jf (Kt [4,5,7,9] (Wm [(0,.agg #[I (((J9 c.queue c.batch).1).most),Sl a7 ((((J9 c.queue c.batch).1).wait).length) c6]),(1,Pt b1 6),(2,Sl a6 c.books.length c.books.length),(3,Sl aw xw.length cw),(6,Pt b1 0)] (JF [] [(0,4),(1,0),(2,8),(3,0),(6,0)] [] [4] (Ha _) (Kf ?_ KY)))))))))))))))))
 refine Jz 4 [(72,Sl aw xw.length cw)] (fun X=>?_)
 refine Km 73 1 #[Sl aw xw.length cw] 44 (fun b6=>JA [(4,Sl (At b6 0) 1 1)] (JF [3] [(0,6),(1,0),(2,10),(6,0)] [] [5] (Ha _) (Kf ?_ KY)))
 refine Jz 5 [(71,Sl a6 c.books.length c.books.length),(73,Sl (At b6 0) 1 1)] (fun X=>?_)
 refine JkM (E:=QA) (b:=b6) (cs:=[Sl aw xw.length cw]) 74 44 0 xw (hs6.mono (Ja (Ja (Ja (Ja hl2 hl3) hl4) hle) hl7)) (⟨aw,cw,rfl,hs11⟩) (by (have q_:=ZF ‹_›;(try simp only [Hc,He,Hh]);omega)) (by (have q_:=ZF ‹_›;simp only [QA,Hc,He,Hh];omega)) (fun a12 c11 r3 hr3=>JA [(5,Sl a12 ((c.books++[xw]).length) c11)] (JF [1,2,3] [(0,8),(6,0)] [] [7] (Ha _) (Kf ?_ KY)))
 refine Jz 7 [(69,.agg #[I (((J9 c.queue c.batch).1).most),Sl a7 ((((J9 c.queue c.batch).1).wait).length) c6]),(75,Pt b1 0)] (fun X=>?_)
 refine KC 5 [r3,[Sg b6 0 [Sl aw xw.length cw]],[],[Sg b3 0 [I (((J9 c.queue c.batch).1).most),Sl a7 ((((J9 c.queue c.batch).1).wait).length) c6]],[Sg b2 0 [I 0,Sl none 0 0,I 0,I 0,I 0,Sl none 0 0,Sl none 0 0]],[Sg b1 0 [I (((J9 c.queue c.batch).1).most),Sl a7 ((((J9 c.queue c.batch).1).wait).length) c6,I c.batch,I c.every,I (c.now+1),Sl a5 c.heads.length c5,Sl a6 c.books.length c.books.length]]] (J6 [(8,Pt b1 6)] (JF [0,1,2,3,6] [(8,0)] [] [9] (Ha _) (Kf ?_ KY)))
 refine Jz 9 [(74,Sl a12 ((c.books++[xw]).length) c11),(76,Pt b1 6)] (fun X=>?_)
 refine KC 5 [r3,[Sg b6 0 [Sl aw xw.length cw]],[],[Sg b3 0 [I (((J9 c.queue c.batch).1).most),Sl a7 ((((J9 c.queue c.batch).1).wait).length) c6]],[Sg b2 0 [I 0,Sl none 0 0,I 0,I 0,I 0,Sl none 0 0,Sl none 0 0]],[Sg b1 0 [I (((J9 c.queue c.batch).1).most),Sl a7 ((((J9 c.queue c.batch).1).wait).length) c6,I c.batch,I c.every,I (c.now+1),Sl a5 c.heads.length c5,Sl a12 ((c.books++[xw]).length) c11]]] (J6 [] (Kl [0,1,2,3,6,8] [] [] [(1,Pt b1 0),(2,Pt b2 0),(12,U ((JY xw []).1))] (Ha _) (Jc (Jf (Jd (Jb [0,12,0,0,12] [(79,Sl a5 c.heads.length c5),(80,U ((JY xw []).1)),(82,I (c.now+1))] (JN 83 (JgO G7 a5 c5 c.heads (hs5.mono (Ja (Ja (Ja (Ja hl2 hl3) hl4) hle) hl7)) ((JY xw []).1) (Vq _ _) (c.now+1) (by have q_:=ZF ‹_›;(try dsimp only);omega)) (fun v G8 L1 hl8 hp=>?_))))))))
 obtain ⟨a13,c12,r4,rfl,hr4,rfl⟩:=hp
 refine JW [0,0,0,0,15] [] [r4,r3,[Sg b6 0 [Sl aw xw.length cw]],[],[Sg b3 0 [I (((J9 c.queue c.batch).1).most),Sl a7 ((((J9 c.queue c.batch).1).wait).length) c6]],[Sg b2 0 [I 0,Sl none 0 0,I 0,I 0,I 0,Sl none 0 0,Sl none 0 0]],[Sg b1 0 [I (((J9 c.queue c.batch).1).most),Sl a7 ((((J9 c.queue c.batch).1).wait).length) c6,I c.batch,I c.every,I (c.now+1),Sl a13 (((QD c.heads ((JY xw []).1) (c.now+1)).1).length) c12,Sl a12 ((c.books++[xw]).length) c11]]] (Je (Jc (QF [14,13,0,0] [(3,Bo true),(4,I 0)] [r4,r3,[Sg b6 0 [Sl aw xw.length cw]],[],[Sg b3 0 [I (((J9 c.queue c.batch).1).most),Sl a7 ((((J9 c.queue c.batch).1).wait).length) c6]],[Sg b2 0 [I (((J9 c.queue c.batch).1).most),Sl a7 ((((J9 c.queue c.batch).1).wait).length) c6,I c.batch,I c.every,I (c.now+1),Sl a13 (((QD c.heads ((JY xw []).1) (c.now+1)).1).length) c12,Sl a12 ((c.books++[xw]).length) c11]],[Sg b1 0 [I (((J9 c.queue c.batch).1).most),Sl a7 ((((J9 c.queue c.batch).1).wait).length) c6,I c.batch,I c.every,I (c.now+1),Sl a13 (((QD c.heads ((JY xw []).1) (c.now+1)).1).length) c12,Sl a12 ((c.books++[xw]).length) c11]]] (Jn (Wy (E:=KO) 0 hr4 (by (have q_:=JgX c.heads ((JY xw []).1) (c.now+1);simp only [KO];omega)) (fun G9 hl9 hs12=>Wy (E:=QA) 1 (hr3.mono (Ja hl8 hl9)) (by (have q_:=ZF ‹_›;simp only [QA,Hc,He,Hh];omega)) (fun G10 hl10 hs13=>?_)))))))
 have hf4:KV c=((⟨((J9 c.queue c.batch).1),c.batch,c.every,c.now+1,(QD c.heads ((JY xw []).1) (c.now+1)).1,(c.books++[xw])⟩:KT),true,0):=by
  unfold KV Yc;(rw [if_neg (by simp_all)];(rw [if_neg (by simp_all)];(rw [if_neg (by simp_all)];have e_:xw=Jac c:=(by rw [hxw.1,Hk (by omega)];rfl);rw [← e_])))
 refine Jo [5,0,0] [.agg #[I (((J9 c.queue c.batch).1).most),Sl a7 ((((J9 c.queue c.batch).1).wait).length) c6,I c.batch,I c.every,I (c.now+1),Sl a13 (((QD c.heads ((JY xw []).1) (c.now+1)).1).length) c12,Sl a12 ((c.books++[xw]).length) c11],Bo true,I 0] (JD [] (Ja (Ja (Ja (Ja (Ja (Ja (Ja (Ja hl1 hl2) hl3) hl4) hle) hl7) hl8) hl9) hl10) ?_)
 rw [hf4]
 try dsimp only
 exact ⟨a7,c6,a13,c12,a12,c11,rfl,w9,(hs7.mono (Ja (Ja (Ja (Ja (Ja (Ja hl3 hl4) hle) hl7) hl8) hl9) hl10)),‹_›,‹_›,(by have q_:=ZF ‹_›;(try dsimp only);omega),(hs12.mono hl10),hs13,rfl⟩
def Jes:Q5:=⟨ZE,Jem⟩
def JL (c:KT) (name:Bb) (epoch:Int):Q5×Int:=if ¬ (KH c epoch).2=0 then (Jes,(KH c epoch).2) else if ¬ (Qe (KH c epoch).1 name).2=0 then (Jes,(Qe (KH c epoch).1 name).2) else (⟨c.heads[epoch.toNat]?.getD ZE,(Qe (KH c epoch).1 name).1⟩,0)
theorem V1 (G:J5) (vs_c:Bv) (c:KT) (h_c:JaH.R G vs_c c) (name:Bb) (hw_name:(name).length≤140737488351232) (epoch:Int) (hw_epoch:rI epoch) :YS 141 #[.agg vs_c.toArray,Sr name,I epoch] G [] (fun u G' L'=>∃ (a1:Ba) (c2:Nat) (a3:Ba) (c4:Nat),u=.tuple #[.agg #[I (((JL c name epoch).1).head.epoch),U (((JL c name epoch).1).head.root),U (((JL c name epoch).1).head.prev),I (((JL c name epoch).1).head.at_),Sr (((JL c name epoch).1).proof.name),Sl a1 ((((JL c name epoch).1).proof.entries).length) c2,Sl a3 ((((JL c name epoch).1).proof.sides).length) c4],I ((JL c name epoch).2)]∧(rI (((JL c name epoch).1).head.epoch))∧(rU (((JL c name epoch).1).head.root))∧(rU (((JL c name epoch).1).head.prev))∧(rI (((JL c name epoch).1).head.at_))∧((((JL c name epoch).1).proof.name).length≤140737488351232)∧(RS QK G' a1 c2 (((JL c name epoch).1).proof.entries))∧(RS EU G' a3 c4 (((JL c name epoch).1).proof.sides))∧L'=[]):=by
 obtain ⟨a1,c1,a2,c2,a3,c3,rfl,w1,hs1,w2,w3,w4,hs2,hs3⟩:=h_c
 refine JP Tryz.func141 38 [(0,(QG c a1 c1 a2 c2 a3 c3)),(1,Sr name),(2,I epoch)] rfl (fun w0 G0=>?_)
 refine Jf (Jd (Jv 3 #[I c.queue.most,Sl a1 c.queue.wait.length c1,I c.batch,I c.every,I c.now,Sl a2 c.heads.length c2,Sl a3 c.books.length c3] 60 (fun b1=>Jv 6 #[I 0,U 0,U 0,I 0,Sr ([]),Sl none 0 0,Sl none 0 0] 49 (fun b2=>Jb [0] [] (Je (Jc (Jf (Jd (Jb [4,0] [(12,(QG c a1 c1 a2 c2 a3 c3)),(13,I epoch)] (JN 14 (JgW G (KW c a1 c1 a2 c2 a3 c3) c (⟨a1,c1,a2,c2,a3,c3,rfl,w1,hs1,w2,w3,w4,hs2,hs3⟩) epoch hw_epoch) (fun v G1 L1 hl1 hp=>?_)))))))))))
 obtain ⟨a4,c4,_,rfl,hr1,rfl⟩:=hp
 refine Jb [0,0,0,0,0] [(8,Sl a4 (((KH c epoch).1).length) c4),(9,I ((KH c epoch).2))] (Je (Jc (Jf (Jg [0,0] [(18,Bo (!decide ((KH c epoch).2=0)))] (Jl (!decide ((KH c epoch).2=0)) (fun h1=>?_) (fun h1=>?_))))))
 refine Jg [0,0,5,0] [(7,I ((KH c epoch).2))] (Jn (Jj ?_))
 have hf1:JL c name epoch=((⟨(⟨0,0,0,0⟩:JX),(⟨[],[],[]⟩:Q4)⟩:Q5),(KH c epoch).2):=by
  unfold JL Jes;(rw [if_pos ‹_›];rfl)
 refine Jo [1,0] [.agg #[I 0,U 0,U 0,I 0,Sr ([]),Sl none 0 0,Sl none 0 0],I ((KH c epoch).2)] (JD [] hl1 ?_)
 rw [hf1]
 try dsimp only
 exact ⟨none,0,none,0,rfl,J4,J4,J4,J4,(Hg rfl),(J2 QK G1),(J2 EU G1),rfl⟩
 refine Jq (Jc (Jf (Jd (Jb [0,0] [(22,Sl a4 (((KH c epoch).1).length) c4),(23,Sr name)] (Wg (E:=QK) 0 hr1 (by have q_:=JoF c epoch;simp only [QK];omega) (fun G2 hl2 hs4=>JN 24 (JgL G2 a4 c4 ((KH c epoch).1) hs4 name hw_name) (fun v G3 L1 hl3 hp=>?_)))))))
 obtain ⟨a5,c5,a6,c6,rfl,w5,hs5,hs6,rfl⟩:=hp
 refine Jb [0,0,0] [(25,(Jag (Qe ((KH c epoch).1) name).1 a5 c5 a6 c6)),(26,I ((Qe ((KH c epoch).1) name).2))] (Jv 10 #[Sr ([]),Sl none 0 0,Sl none 0 0] 47 (fun b3=>JW [3,0] [(9,I ((Qe ((KH c epoch).1) name).2))] [[Sg b3 0 (VW (Qe ((KH c epoch).1) name).1 a5 c5 a6 c6)],[],[Sg b2 0 [I 0,U 0,U 0,I 0,Sr ([]),Sl none 0 0,Sl none 0 0]],[Sg b1 0 (KW c a1 c1 a2 c2 a3 c3)]] (Je (Jc (Jf (Jg [0,0] [(28,Bo (!decide ((Qe ((KH c epoch).1) name).2=0)))] (Jl (!decide ((Qe ((KH c epoch).1) name).2=0)) (fun h2=>?_) (fun h2=>?_))))))))
 refine Jg [0,0,7,0] [(7,I ((Qe ((KH c epoch).1) name).2))] (Jn (Jj ?_))
 have hf2:JL c name epoch=((⟨(⟨0,0,0,0⟩:JX),(⟨[],[],[]⟩:Q4)⟩:Q5),(Qe ((KH c epoch).1) name).2):=by
  unfold JL Jes;(rw [if_neg (by omega)];(rw [if_pos ‹_›];rfl))
 refine Jo [2,0] [.agg #[I 0,U 0,U 0,I 0,Sr ([]),Sl none 0 0,Sl none 0 0],I ((Qe ((KH c epoch).1) name).2)] (JD [] (Ja (Ja hl1 hl2) hl3) ?_)
 rw [hf2]
 try dsimp only
 exact ⟨none,0,none,0,rfl,J4,J4,J4,J4,(Hg rfl),(J2 QK G3),(J2 EU G3),rfl⟩
 refine Jq (Jc ?_)
 obtain ⟨kn1,hkn1⟩:∃ k_:Nat,epoch=(k_:Int):=⟨(epoch).toNat,by (have q_:=JdP (c:=c) ‹_›;have q1_:=q_.1.len;omega)⟩
 have e1:epoch=(kn1:Int):=hkn1
 refine QU 2 (I (kn1:Int)) (congrArg I e1) (Jf ?_)
 obtain ⟨b4,o1,rfl⟩:=RS.addr (hs2.mono (Ja (Ja hl1 hl2) hl3)) (k:=kn1) (by (have q_:=JdP (c:=c) ‹_›;have q1_:=q_.1.len;omega))
 obtain ⟨x1,hx1⟩:=QS (l:=c.heads) (k:=kn1) (by (have q_:=JdP (c:=c) ‹_›;have q1_:=q_.1.len;omega))
 obtain ⟨_,⟨rfl,w6,w7,w8,w9⟩,hc1⟩:=RS.get (hs2.mono (Ja (Ja hl1 hl2) hl3)) hx1
 refine Kt [7] (Wm [(0,Pt b1 5),(1,Sl (At b4 o1) c.heads.length c2),(2,I (kn1:Int)),(3,Pt b4 (o1+kn1*4)),(4,.agg #[I x1.epoch,U x1.root,U x1.prev,I x1.at_]),(5,(Jag (Qe ((KH c epoch).1) name).1 a5 c5 a6 c6)),(6,(WV (⟨x1,(Qe ((KH c epoch).1) name).1⟩:Q5) a5 c5 a6 c6))] (JF [] [(0,0),(1,8),(2,0),(5,2),(6,0)] [3,4] [7] (Kf ?_ (Kf ?_ KY)) (Kf ?_ KY)))
 refine Jr 3 34 (Pt b4 (o1+kn1*4)) [(32,Sl (At b4 o1) c.heads.length c2),(33,I (kn1:Int))] (fun X=>?_)
 exact JV (b:=b4) (off:=o1) (len:=c.heads.length) (cap:=c2) (ik:=.i64) 34 43 4 kn1 (by (have q_:=JdP (c:=c) ‹_›;have q1_:=q_.1.len;omega)) Jp
 refine Jr 4 35 (.agg #[I x1.epoch,U x1.root,U x1.prev,I x1.at_]) [(34,Pt b4 (o1+kn1*4))] (fun X=>?_)
 exact JO 35 43 (cs:=[I x1.epoch,U x1.root,U x1.prev,I x1.at_]) 0 (.agg #[I x1.epoch,U x1.root,U x1.prev,I x1.at_]) hc1 Jp
 refine Jz 7 [(6,Pt b2 0),(37,(WV (⟨x1,(Qe ((KH c epoch).1) name).1⟩:Q5) a5 c5 a6 c6))] (fun X=>?_)
 refine KC 2 [[Sg b3 0 (VW (Qe ((KH c epoch).1) name).1 a5 c5 a6 c6)],[],[Sg b2 0 (ZR (⟨x1,(Qe ((KH c epoch).1) name).1⟩:Q5) a5 c5 a6 c6)],[Sg b1 0 (KW c a1 c1 (At b4 o1) c2 a3 c3)]] (J6 [(8,I 0)] (Kl [0,1,2,3,4,5,6] [(8,0)] [] [(6,Pt b2 0),(7,I 0)] (Ha _) (Jc (Jn ?_))))
 have hf3:JL c name epoch=((⟨x1,((Qe ((KH c epoch).1) name).1)⟩:Q5),0):=by
  unfold JL Jes;(rw [if_neg (by omega)];(rw [if_neg (by simp_all)];simp_all;done))
 refine Jo [2,0] [(WV (⟨x1,(Qe ((KH c epoch).1) name).1⟩:Q5) a5 c5 a6 c6),I 0] (JD [] (Ja (Ja hl1 hl2) hl3) ?_)
 rw [hf3]
 try dsimp only
 exact ⟨a5,c5,a6,c6,rfl,w6,w7,w8,w9,w5,hs5,hs6,rfl⟩
def ZS (c:KT) (a b:Int):List JX×Int:=if ¬ Kh c=0 then ([],Kh c) else Zc c.heads a b
set_option maxHeartbeats 1600000 in
theorem Jgg (G:J5) (vs_c:Bv) (c:KT) (h_c:JaH.R G vs_c c) (a:Int) (hw_a:rI a) (b:Int) (hw_b:rI b) :YS 167 #[.agg vs_c.toArray,I a,I b] G [] (fun u G' L'=>∃ (a1:Ba) (c2:Nat),u=.tuple #[Sl a1 (((ZS c a b).1).length) c2,I ((ZS c a b).2)]∧(RS KO G' a1 c2 ((ZS c a b).1))∧L'=[]):=by
 obtain ⟨a1,c1,a2,c2,a3,c3,rfl,w1,hs1,w2,w3,w4,hs2,hs3⟩:=h_c
 refine JP Tryz.func167 21 [(0,(QG c a1 c1 a2 c2 a3 c3)),(1,I a),(2,I b)] rfl (fun w0 G0=>?_)
 refine Jf (Jd (Jv 3 #[I c.queue.most,Sl a1 c.queue.wait.length c1,I c.batch,I c.every,I c.now,Sl a2 c.heads.length c2,Sl a3 c.books.length c3] 60 (fun b1=>Jb [0,0] [] (Je (Jc (Jf (Jf (Jd (Jb [2] [(9,(QG c a1 c1 a2 c2 a3 c3))] (Jm 10 (I (Kh c)) (VL G (KW c a1 c1 a2 c2 a3 c3) c (⟨a1,c1,a2,c2,a3,c3,rfl,w1,hs1,w2,w3,w4,hs2,hs3⟩)) (Jb [0] [(8,I (Kh c))] (Je (Jc (Jg [0,0] [(12,Bo (!decide (Kh c=0)))] (Jl (!decide (Kh c=0)) (fun h1=>?_) (fun h1=>?_))))))))))))))))
 refine Jg [0,0,0] [(6,Sl none 0 0),(7,I (Kh c))] (Jn (Jj ?_))
 have hf1:ZS c a b=([],Kh c):=by
  unfold ZS;(rw [if_pos ‹_›];done)
 refine Jo [0,0] [Sl none 0 0,I (Kh c)] (JD [] (Jh _) ?_)
 rw [hf1]
 try dsimp only
 exact ⟨none,0,rfl,(J2 KO G),rfl⟩
 refine Jq (Jc (Jf (Jd (Jb [0,2,0,0] [(15,Sl a2 c.heads.length c2),(16,I a),(17,I b)] (JN 18 (JgP G a2 c2 c.heads hs2 a hw_a b hw_b) (fun v G1 L1 hl1 hp=>?_))))))
 obtain ⟨a4,c4,rfl,hs4,rfl⟩:=hp
 refine Jb [0,0,0,0] [(6,Sl a4 (((Zc c.heads a b).1).length) c4),(7,I ((Zc c.heads a b).2))] (Je (Jc (Jn ?_)))
 have hf2:ZS c a b=((Zc c.heads a b).1,(Zc c.heads a b).2):=by
  unfold ZS;(rw [if_neg (by omega)];done)
 refine Jo [0,0] [Sl a4 (((Zc c.heads a b).1).length) c4,I ((Zc c.heads a b).2)] (JD [] hl1 ?_)
 rw [hf2]
 try dsimp only
 exact ⟨a4,c4,rfl,hs4,rfl⟩
def Vs (p:We):Prop:=1≤p.least∧p.least≤p.most∧p.most≤1000∧1≤p.lost∧p.lost≤100∧p.least≤p.gap∧p.gap≤p.most∧0≤p.next∧p.next≤1000000000∧0≤p.asked∧p.asked≤1000000
instance (p:We):Decidable (Vs p):=inferInstanceAs (Decidable (_∧_))
def KL (p:We):Int:=if Vs p then 0 else 4
theorem ZL (p:We):KL p=0 ↔ Vs p:=by unfold KL;split <;> simp_all
theorem Jih (p:We):KL p=0∨KL p=4:=by unfold KL;split <;> simp
theorem JbN {p:We} (h:Vs p):KL p=0:=if_pos h
theorem JcO {p:We} (h:¬ Vs p):KL p=4:=if_neg h
def KP (p:We) (now:Int):Int:=if KL p=0∧(now<0∨1000000000<now) then 4 else KL p
theorem Jc9 (p:We) (now:Int):KP p now=0 ↔ (Vs p∧0≤now∧now≤1000000000):=by
 rw [← ZL];unfold KP;have:=Jih p;split <;> omega
theorem Jcc {p:We} {now:Int} (h:KP p now=0):1≤p.least∧p.least≤p.most∧p.most≤1000∧1≤p.lost∧p.lost≤100∧p.least≤p.gap∧p.gap≤p.most∧0≤p.next∧p.next≤1000000000∧0≤p.asked∧p.asked≤1000000∧0≤now∧now≤1000000000:=by
 have:=(Jc9 p now).1 h;unfold Vs at this;omega
def K4 (now n:Int):Int:=if 1000000000<now+n then 1000000000 else now+n
def VU:We:=⟨0,0,0,0,0,0⟩
def KQ (p:We) (now:Int):We×Int :=
 if KP p now ≠ 0 then (VU,KP p now) else if now<p.next then (VU,9) else if p.asked=1000000 then (VU,7) else
 (⟨p.least,p.most,p.lost,if p.most<2*p.gap then p.most else 2*p.gap,K4 now p.gap,p.asked+1⟩,0)
def KR (least top lost:Int):We×Int:=if Vs ⟨least,top,lost,least,0,0⟩ then (⟨least,top,lost,least,0,0⟩,0) else (VU,4)
def Wa (p:We) (now:Int):We×Int :=
 if KP p now ≠ 0 then (VU,KP p now) else
 (⟨p.least,p.most,p.lost,p.least,if K4 now p.least<p.next then K4 now p.least else p.next,0⟩,0)
theorem JeX {p:We} {now:Int} (h:(KQ p now).2=0) :
  1≤p.least∧p.least≤p.most∧p.most≤1000∧1≤p.lost∧p.lost≤100∧p.least≤p.gap∧p.gap≤p.most∧0≤p.next∧p.next≤1000000000∧0≤p.asked∧p.asked<1000000∧0≤now∧now≤1000000000∧p.next≤now ∧
  KL (KQ p now).1=0∧(KQ p now).1.least=p.least∧(KQ p now).1.most=p.most∧(KQ p now).1.lost=p.lost∧(KQ p now).1.asked=p.asked+1 ∧
  (p.most<2*p.gap∧(KQ p now).1.gap=p.most∨2*p.gap≤p.most∧(KQ p now).1.gap=2*p.gap) ∧
  (1000000000<now+p.gap∧(KQ p now).1.next=1000000000∨now+p.gap≤1000000000∧(KQ p now).1.next=now+p.gap):=by
 unfold KQ at h ⊢
 split at h
 · contradiction
 split at h
 · cases h
 split at h
 · cases h
 rename_i h1 h2 h3
 have hb:=Jcc (p:=p) (now:=now) (by omega)
 rw [if_neg h1,if_neg h2,if_neg h3]
 dsimp only
 refine ⟨by omega,by omega,by omega,by omega,by omega,by omega,by omega,by omega,by omega,by omega,by omega,by omega,by omega,by omega,JbN ?_,rfl,rfl,rfl,rfl,?_,?_⟩
 · unfold Vs K4;simp only;(repeat' split) <;> omega
 · split <;> omega
 · unfold K4;split <;> omega
theorem Jii {p:We} {now:Int} (h:(KQ p now).2 ≠ 0):(KQ p now).1=VU:=by
 revert h;unfold KQ;(repeat' split) <;> simp
theorem Jij {p:We} {now:Int} (h:(Wa p now).2=0):KP p now=0∧Wa p now=(⟨p.least,p.most,p.lost,p.least,if K4 now p.least<p.next then K4 now p.least else p.next,0⟩,0):=by
 revert h;unfold Wa;split
 · intro h;exact absurd h ‹_›
 · intro _;exact ⟨by omega,rfl⟩
theorem Jgh {a b c:Int} (h:(KR a b c).2=0):Vs ⟨a,b,c,a,0,0⟩∧KR a b c=(⟨a,b,c,a,0,0⟩,0):=by
 revert h;unfold KR;split
 · rename_i h1;intro _;exact ⟨h1,rfl⟩
 · simp
theorem Jjy {a b c:Int} (h:(KR a b c).2 ≠ 0):(KR a b c).1=VU:=by
 revert h;unfold KR;split <;> simp
def Jbs (p:We):Bool:=decide (KL p=0) && decide (p.asked ≥ p.lost)
def ZT (p:We) (now:Int):Bool×Int:=(decide (KP p now=0) && decide (now ≥ p.next),KP p now)
def Wp (p:We):Bool×Int:=(Jbs p,KL p)
theorem Jba (G:J5) (vs_p:Bv) (p:We) (h_p:WK.R G vs_p p) :QZ 100 #[.agg vs_p.toArray] G (I (KL p)):=by
 obtain ⟨rfl,_,_,_,_,_,_⟩:=h_p
 refine JP Tryz.func100 62 [(0,.agg #[I p.least,I p.most,I p.lost,I p.gap,I p.next,I p.asked])] rfl (fun w0 G0=>?_)
 refine Jf (Jd (Jv 1 #[I p.least,I p.most,I p.lost,I p.gap,I p.next,I p.asked] 143 (fun b1=>Jb [0] [] (Je (Jc (Jf (Jf (Jd (Jb [0,2,0,0] [(6,Bo (decide (p.least<1)))] (Ks (decide (p.least<1)) [6] [1,1,1,1,1,0] [0,2,0,2,0,0] (fun bb=>[(12,Bo (bb || (decide (p.least > p.most))))]) (Jb [0] [(13,Bo ((decide (p.least<1)) || (decide (p.least > p.most))))] (Ks ((decide (p.least<1)) || (decide (p.least > p.most))) [13] [1,1,1,0] [0,2,0,0] (fun bb=>[(17,Bo (bb || (decide (p.most > 1000))))]) (Jb [0] [(18,Bo (((decide (p.least<1)) || (decide (p.least > p.most))) || (decide (p.most > 1000))))] (Ks (((decide (p.least<1)) || (decide (p.least > p.most))) || (decide (p.most > 1000))) [18] [1,1,1,0] [0,2,0,0] (fun bb=>[(22,Bo (bb || (decide (p.lost<1))))]) (Jb [0] [(23,Bo ((((decide (p.least<1)) || (decide (p.least > p.most))) || (decide (p.most > 1000))) || (decide (p.lost<1))))] (Ks ((((decide (p.least<1)) || (decide (p.least > p.most))) || (decide (p.most > 1000))) || (decide (p.lost<1))) [23] [1,1,1,0] [0,2,0,0] (fun bb=>[(27,Bo (bb || (decide (p.lost > 100))))]) ?_))))))))))))))))
 refine Jb [0] [(28,Bo (((((decide (p.least<1)) || (decide (p.least > p.most))) || (decide (p.most > 1000))) || (decide (p.lost<1))) || (decide (p.lost > 100))))] (Ks (((((decide (p.least<1)) || (decide (p.least > p.most))) || (decide (p.most > 1000))) || (decide (p.lost<1))) || (decide (p.lost > 100))) [28] [1,1,1,1,1,0] [0,2,0,2,0,0] (fun bb=>[(34,Bo (bb || (decide (p.gap<p.least))))]) (Jb [0] [(35,Bo ((((((decide (p.least<1)) || (decide (p.least > p.most))) || (decide (p.most > 1000))) || (decide (p.lost<1))) || (decide (p.lost > 100))) || (decide (p.gap<p.least))))] (Ks ((((((decide (p.least<1)) || (decide (p.least > p.most))) || (decide (p.most > 1000))) || (decide (p.lost<1))) || (decide (p.lost > 100))) || (decide (p.gap<p.least))) [35] [1,1,1,1,1,0] [0,2,0,2,0,0] (fun bb=>[(41,Bo (bb || (decide (p.gap > p.most))))]) (Jb [0] [(42,Bo (((((((decide (p.least<1)) || (decide (p.least > p.most))) || (decide (p.most > 1000))) || (decide (p.lost<1))) || (decide (p.lost > 100))) || (decide (p.gap<p.least))) || (decide (p.gap > p.most))))] (Ks (((((((decide (p.least<1)) || (decide (p.least > p.most))) || (decide (p.most > 1000))) || (decide (p.lost<1))) || (decide (p.lost > 100))) || (decide (p.gap<p.least))) || (decide (p.gap > p.most))) [42] [1,1,1,0] [0,2,0,0] (fun bb=>[(46,Bo (bb || (decide (p.next<0))))]) (Jb [0] [(47,Bo ((((((((decide (p.least<1)) || (decide (p.least > p.most))) || (decide (p.most > 1000))) || (decide (p.lost<1))) || (decide (p.lost > 100))) || (decide (p.gap<p.least))) || (decide (p.gap > p.most))) || (decide (p.next<0))))] (Ks ((((((((decide (p.least<1)) || (decide (p.least > p.most))) || (decide (p.most > 1000))) || (decide (p.lost<1))) || (decide (p.lost > 100))) || (decide (p.gap<p.least))) || (decide (p.gap > p.most))) || (decide (p.next<0))) [47] [1,1,1,0] [0,2,0,0] (fun bb=>[(51,Bo (bb || (decide (p.next > 1000000000))))]) (Jb [0] [(52,Bo (((((((((decide (p.least<1)) || (decide (p.least > p.most))) || (decide (p.most > 1000))) || (decide (p.lost<1))) || (decide (p.lost > 100))) || (decide (p.gap<p.least))) || (decide (p.gap > p.most))) || (decide (p.next<0))) || (decide (p.next > 1000000000))))] (Ks (((((((((decide (p.least<1)) || (decide (p.least > p.most))) || (decide (p.most > 1000))) || (decide (p.lost<1))) || (decide (p.lost > 100))) || (decide (p.gap<p.least))) || (decide (p.gap > p.most))) || (decide (p.next<0))) || (decide (p.next > 1000000000))) [52] [1,1,1,0] [0,2,0,0] (fun bb=>[(56,Bo (bb || (decide (p.asked<0))))]) (Jb [0] [(57,Bo ((((((((((decide (p.least<1)) || (decide (p.least > p.most))) || (decide (p.most > 1000))) || (decide (p.lost<1))) || (decide (p.lost > 100))) || (decide (p.gap<p.least))) || (decide (p.gap > p.most))) || (decide (p.next<0))) || (decide (p.next > 1000000000))) || (decide (p.asked<0))))] ?_))))))))))
 refine Ks ((((((((((decide (p.least<1)) || (decide (p.least > p.most))) || (decide (p.most > 1000))) || (decide (p.lost<1))) || (decide (p.lost > 100))) || (decide (p.gap<p.least))) || (decide (p.gap > p.most))) || (decide (p.next<0))) || (decide (p.next > 1000000000))) || (decide (p.asked<0))) [57] [1,1,1,0] [0,2,0,0] (fun bb=>[(61,Bo (bb || (decide (p.asked > 1000000))))]) (Je (Jc (Jl (((((((((((decide (p.least<1)) || (decide (p.least > p.most))) || (decide (p.most > 1000))) || (decide (p.lost<1))) || (decide (p.lost > 100))) || (decide (p.gap<p.least))) || (decide (p.gap > p.most))) || (decide (p.next<0))) || (decide (p.next > 1000000000))) || (decide (p.asked<0))) || (decide (p.asked > 1000000))) (fun h1=>?_) (fun h1=>?_))))
 refine Jg [0] [(2,I 4)] (Jn (Jj (Jo [0] [I 4] (Jx (Jh _) (congrArg I (?_:(KL p)=4).symm)))))
 exact JcO (by unfold Vs;omega)
 refine Jq (Jc (Jg [0] [(2,I 0)] (Jn (Jo [0] [I 0] (Jx (Jh _) (congrArg I (?_:(KL p)=0).symm))))))
 exact JbN (by unfold Vs;omega)
theorem JbV (G:J5) (vs_p:Bv) (p:We) (h_p:WK.R G vs_p p) (now:Int) :QZ 215 #[.agg vs_p.toArray,I now] G (I (KP p now)):=by
 obtain ⟨rfl,w1,w2,w3,w4,w5,w6⟩:=h_p
 refine JP Tryz.func215 19 [(0,.agg #[I p.least,I p.most,I p.lost,I p.gap,I p.next,I p.asked]),(1,I now)] rfl (fun w0 G0=>?_)
 refine Jf (Jd (Jv 2 #[I p.least,I p.most,I p.lost,I p.gap,I p.next,I p.asked] 143 (fun b1=>Jb [0] [] (Je (Jc (Jf (Jd (Jb [2] [(6,.agg #[I p.least,I p.most,I p.lost,I p.gap,I p.next,I p.asked])] (Jm 7 (I (KL p)) (Jba G [I p.least,I p.most,I p.lost,I p.gap,I p.next,I p.asked] p (⟨rfl,w1,w2,w3,w4,w5,w6⟩)) (Jb [0] [(5,I (KL p))] (Je (Jc (Jf (Jf (Jd (Jb [0,0,0] [(10,Bo (decide (KL p=0)))] (QR [10] (decide (KL p=0)) (fun h1=>?_) (fun h1=>?_))))))))))))))))))
 refine Jb [0,0,0] [(13,Bo (decide (now<0)))] (Ks (decide (now<0)) [13] [1,1,0] [0,0,0] (fun bb=>[(16,Bo (bb || (decide (now > 1000000000))))]) (Jb [0] [(17,Bo ((decide (now<0)) || (decide (now > 1000000000))))] (Je (Jc (Jl ((decide (now<0)) || (decide (now > 1000000000))) (fun h2=>?_) (fun h2=>?_))))))
 refine Jd (Jb [0] [(5,I 4)] (Je (Jc (Jg [0,0] [(4,I 4)] (Jn (Jo [0] [I 4] (Jx (Jh _) (congrArg I (?_:(KP p now)=4).symm))))))))
 unfold KP;split <;> omega
 refine Jq (Jc (Jg [0,0] [(4,I (KL p))] (Jn (Jo [0] [I (KL p)] (Jx (Jh _) (congrArg I (?_:(KP p now)=(KL p)).symm))))))
 unfold KP;split <;> omega
 refine Jb [1,1,1,1,1,1,0] [(17,Bo false)] (Je (Jc (Qr (Jq (Jc (Jg [0,0] [(4,I (KL p))] (Jn (Jo [0] [I (KL p)] (Jx (Jh _) (congrArg I (?_:(KP p now)=(KL p)).symm))))))))))
 unfold KP;split <;> omega
theorem Jjz (G:J5) (vs_p:Bv) (p:We) (h_p:WK.R G vs_p p) (now:Int) :QZ 217 #[.agg vs_p.toArray,I now] G (.tuple #[Bo ((ZT p now).1),I ((ZT p now).2)]):=by
 obtain ⟨rfl,w1,w2,w3,w4,w5,w6⟩:=h_p
 refine JP Tryz.func217 19 [(0,.agg #[I p.least,I p.most,I p.lost,I p.gap,I p.next,I p.asked]),(1,I now)] rfl (fun w0 G0=>?_)
 refine Jf (Jd (Jv 2 #[I p.least,I p.most,I p.lost,I p.gap,I p.next,I p.asked] 143 (fun b1=>Jb [0,0] [] (Je (Jc (Jf (Jd (Jb [2,0] [(7,.agg #[I p.least,I p.most,I p.lost,I p.gap,I p.next,I p.asked]),(8,I now)] (Jm 9 (I (KP p now)) (JbV G [I p.least,I p.most,I p.lost,I p.gap,I p.next,I p.asked] p (⟨rfl,w1,w2,w3,w4,w5,w6⟩) now) (Jb [0] [(6,I (KP p now))] (Je (Jc (Jf (Jd (Jb [0,0,0] [(12,Bo (decide (KP p now=0)))] (Ks (decide (KP p now=0)) [12] [0,0,2,0,0] [1,1,1,1,0] (fun bb=>[(17,Bo (bb && (decide (now ≥ p.next))))]) (Jb [0,0,0] [(4,Bo ((decide (KP p now=0)) && (decide (now ≥ p.next)))),(5,I (KP p now))] (Je (Jc (Jn (Jo [0,0] [Bo ((decide (KP p now=0)) && (decide (now ≥ p.next))),I (KP p now)] (Jx (Jh _) ?_))))))))))))))))))))))
 have hf_:(ZT p now)=(((decide (KP p now=0)) && (decide (now ≥ p.next))),(KP p now)):=by
  rfl
 · (try rw [hf_]);(simp only [QC];done)
theorem JcP (G:J5) (now:Int) (n:Int) (hn:-9000000000000000000≤now+n∧now+n≤9000000000000000000):QZ 216 #[I now,I n] G (I (K4 now n)):=by
 refine JP Tryz.func216 9 [(0,I now),(1,I n)] rfl (fun w0 G0=>?_)
 refine Jg [0] [] (Jg [0,0,0,0,0] [(4,I (if 1000000000<(Hb.wrap (now+n)) then 1000000000 else (Hb.wrap (now+n))))] ?_)
 have e1:Hb.wrap (now+n)=now+n:=Ho _ (by omega)
 refine QU 4 (I (if 1000000000<(now+n) then 1000000000 else (now+n))) (show (I (if 1000000000<(Hb.wrap (now+n)) then 1000000000 else (Hb.wrap (now+n))):Value)=I (if 1000000000<(now+n) then 1000000000 else (now+n)) by simp only [e1]) ?_
 clear e1
 refine Jn (Jo [0] [I (if 1000000000<(now+n) then 1000000000 else (now+n))] (Jx (Jh _) (congrArg I (?_:(K4 now n)=(if 1000000000<(now+n) then 1000000000 else (now+n))).symm)))
 unfold K4;split <;> rfl
theorem JdS (G:J5) (vs_p:Bv) (p:We) (h_p:WK.R G vs_p p) (now:Int) :QZ 170 #[.agg vs_p.toArray,I now] G (.tuple #[.agg #[I (((KQ p now).1).least),I (((KQ p now).1).most),I (((KQ p now).1).lost),I (((KQ p now).1).gap),I (((KQ p now).1).next),I (((KQ p now).1).asked)],I ((KQ p now).2)]):=by
 obtain ⟨rfl,w1,w2,w3,w4,w5,w6⟩:=h_p
 refine JP Tryz.func170 45 [(0,.agg #[I p.least,I p.most,I p.lost,I p.gap,I p.next,I p.asked]),(1,I now)] rfl (fun w0 G0=>?_)
 refine Jf (Jd (Jv 2 #[I p.least,I p.most,I p.lost,I p.gap,I p.next,I p.asked] 143 (fun b1=>Jv 4 #[I 0,I 0,I 0,I 0,I 0,I 0] 143 (fun b2=>Jb [0] [] (Je (Jc (Jf (Jd (Jb [4,0] [(9,.agg #[I p.least,I p.most,I p.lost,I p.gap,I p.next,I p.asked]),(10,I now)] (Jm 11 (.tuple #[Bo ((ZT p now).1),I ((ZT p now).2)]) (Jjz G [I p.least,I p.most,I p.lost,I p.gap,I p.next,I p.asked] p (⟨rfl,w1,w2,w3,w4,w5,w6⟩) now) (Jb [0,0,0,0,0] [(6,Bo ((ZT p now).1)),(7,I ((ZT p now).2))] (Je (Jc (Jf (Jy (Jg [0,0,0] [(14,Bo (!decide ((ZT p now).2=0)))] (Jl (!decide ((ZT p now).2=0)) (fun h1=>?_) (fun h1=>?_))))))))))))))))))
 refine Jg [0,0,3,0] [(5,I ((ZT p now).2))] (Jn (Ju (Jj (Jo [0,0] [.agg #[I 0,I 0,I 0,I 0,I 0,I 0],I ((ZT p now).2)] (Jx (Jh _) ?_)))))
 have hf_:(KQ p now)=((⟨0,0,0,0,0,0⟩:We),((ZT p now).2)):=by
  unfold KQ VU;(try unfold ZT at *);(repeat' split) <;> rfl
 · (try rw [hf_]);(simp only [QC];done)
 refine Jg [0,0,0] [(19,Bo (!((ZT p now).1)))] (Jl (!((ZT p now).1)) (fun h2=>?_) (fun h2=>?_))
 refine Jg [0,3,0] [(5,I 9)] (Jn (Ju (Jj (Jo [0,0] [.agg #[I 0,I 0,I 0,I 0,I 0,I 0],I 9] (Jx (Jh _) ?_)))))
 have hf_:(KQ p now)=((⟨0,0,0,0,0,0⟩:We),9):=by
  unfold KQ VU;(try unfold ZT at *);(repeat' split) <;> first | rfl | (exfalso;omega) | (simp_all;done)
 · (try rw [hf_]);(simp only [QC];done)
 refine Jg [0,4,0,0] [(23,Bo (decide (p.asked=1000000)))] (Jl (decide (p.asked=1000000)) (fun h3=>?_) (fun h3=>?_))
 refine Jg [0,3,0] [(5,I 7)] (Jn (Ju (Jj (Jo [0,0] [.agg #[I 0,I 0,I 0,I 0,I 0,I 0],I 7] (Jx (Jh _) ?_)))))
 have hf_:(KQ p now)=((⟨0,0,0,0,0,0⟩:We),7):=by
  unfold KQ VU;(try unfold ZT at *);(repeat' split) <;> first | rfl | (exfalso;omega) | (exfalso;simp_all;omega)
 · (try rw [hf_]);(simp only [QC];done)
 refine Jq (JM (Jc (QF [0,4,0,0,5] [] [[Sg b2 0 [I 0,I 0,I 0,I 0,I 0,I 0]],[Sg b1 0 [I p.least,I p.most,I p.lost,I p.gap,I p.next,I (Hb.wrap (p.asked+1))]]] ?_)))
 have e1:Hb.wrap (p.asked+1)=p.asked+1:=Ho _ (by (have q_:=Jcc (p:=p) (now:=now) ‹_›;omega))
 refine JcY (L':=[[Sg b2 0 [I 0,I 0,I 0,I 0,I 0,I 0]],[Sg b1 0 [I p.least,I p.most,I p.lost,I p.gap,I p.next,I (p.asked+1)]]]) (by simp only [e1]) ?_
 clear e1
 refine Jf (Jd (Jb [0,0,4] [(32,I now),(34,I p.gap)] (Jm 35 (I (K4 now p.gap)) (JcP G now p.gap (by (have q_:=Jcc (p:=p) (now:=now) ‹_›;omega))) (JW [0,5] [] [[Sg b2 0 [I 0,I 0,I 0,I 0,I 0,I 0]],[Sg b1 0 [I p.least,I p.most,I p.lost,I p.gap,I (K4 now p.gap),I (p.asked+1)]]] (Je (Jc (QF [0,4,0,0,4,0,0,5] [] [[Sg b2 0 [I 0,I 0,I 0,I 0,I 0,I 0]],[Sg b1 0 [I p.least,I p.most,I p.lost,I (if p.most<(Hb.wrap (2*p.gap)) then p.most else (Hb.wrap (2*p.gap))),I (K4 now p.gap),I (p.asked+1)]]] ?_)))))))
 have e2:Hb.wrap (2*p.gap)=2*p.gap:=Ho _ (by (have q_:=Jcc (p:=p) (now:=now) ‹_›;omega))
 refine JcY (L':=[[Sg b2 0 [I 0,I 0,I 0,I 0,I 0,I 0]],[Sg b1 0 [I p.least,I p.most,I p.lost,I (if p.most<(2*p.gap) then p.most else (2*p.gap)),I (K4 now p.gap),I (p.asked+1)]]]) (by simp only [e2]) ?_
 clear e2
 refine QF [4,3,0] [(5,I 0)] [[Sg b2 0 [I p.least,I p.most,I p.lost,I (if p.most<(2*p.gap) then p.most else (2*p.gap)),I (K4 now p.gap),I (p.asked+1)]],[Sg b1 0 [I p.least,I p.most,I p.lost,I (if p.most<(2*p.gap) then p.most else (2*p.gap)),I (K4 now p.gap),I (p.asked+1)]]] (Jn (Jo [0,0] [.agg #[I p.least,I p.most,I p.lost,I (if p.most<(2*p.gap) then p.most else (2*p.gap)),I (K4 now p.gap),I (p.asked+1)],I 0] (Jx (Jh _) ?_)))
 have hf_:(KQ p now)=((⟨p.least,p.most,p.lost,if p.most<(2*p.gap) then p.most else (2*p.gap),K4 now p.gap,p.asked+1⟩:We),0):=by
  unfold KQ VU;(try unfold ZT at *);(repeat' split) <;> first | rfl | (exfalso;omega) | (exfalso;simp_all;omega)
 · (try rw [hf_]);(simp only [QC];done)
theorem JjA (G:J5) (a:Int) (hw_a:rI a) (b:Int) (hw_b:rI b) (c:Int) (hw_c:rI c) :QZ 58 #[I a,I b,I c] G (.tuple #[.agg #[I (((KR a b c).1).least),I (((KR a b c).1).most),I (((KR a b c).1).lost),I (((KR a b c).1).gap),I (((KR a b c).1).next),I (((KR a b c).1).asked)],I ((KR a b c).2)]):=by
 refine JP Tryz.func58 22 [(0,I a),(1,I b),(2,I c)] rfl (fun w0 G0=>?_)
 refine Jf (Jd (Jv 6 #[I 0,I 0,I 0,I 0,I 0,I 0] 143 (fun b1=>Jb [0] [] (Je (Jc (Jf (Jd (Jb [0,0,0,0,0] [(14,.agg #[I a,I b,I c,I a,I 0,I 0])] (Jv 8 #[I 0,I 0,I 0,I 0,I 0,I 0] 143 (fun b2=>JW [3] [] [[Sg b2 0 [I a,I b,I c,I a,I 0,I 0]],[Sg b1 0 [I 0,I 0,I 0,I 0,I 0,I 0]]] (Je (Jc (Jf (Jf (Jd (Jb [2] [(15,.agg #[I a,I b,I c,I a,I 0,I 0])] (Jm 16 (I (KL (⟨a,b,c,a,0,0⟩:We))) (Jba G [I a,I b,I c,I a,I 0,I 0] (⟨a,b,c,a,0,0⟩:We) (⟨rfl,hw_a,hw_b,hw_c,hw_a,(by (simp;done)),(by (simp;done))⟩)) (Jb [0] [(9,I (KL (⟨a,b,c,a,0,0⟩:We)))] (Je (Jc (Jg [0,0] [(18,Bo (!decide (KL (⟨a,b,c,a,0,0⟩:We)=0)))] (Jl (!decide (KL (⟨a,b,c,a,0,0⟩:We)=0)) (fun h1=>?_) (fun h1=>?_)))))))))))))))))))))))
 refine Jg [0,0,5,0] [(7,I (KL (⟨a,b,c,a,0,0⟩:We)))] (Jn (Jj (Jo [1,0] [.agg #[I 0,I 0,I 0,I 0,I 0,I 0],I (KL (⟨a,b,c,a,0,0⟩:We))] (Jx (Jh _) ?_))))
 have hf_:(KR a b c)=((⟨0,0,0,0,0,0⟩:We),(KL (⟨a,b,c,a,0,0⟩:We))):=by
  rw [ZL] at *;unfold KR VU;split <;> first | (rename_i hx;rw [JcO hx];done) | contradiction
 · (try rw [hf_]);(simp only [QC];done)
 refine Jq (Jc (QF [2,5,0] [(7,I 0)] [[Sg b2 0 [I a,I b,I c,I a,I 0,I 0]],[Sg b1 0 [I a,I b,I c,I a,I 0,I 0]]] (Jn (Jo [1,0] [.agg #[I a,I b,I c,I a,I 0,I 0],I 0] (Jx (Jh _) ?_)))))
 have hf_:(KR a b c)=((⟨a,b,c,a,0,0⟩:We),0):=by
  rw [ZL] at *;unfold KR VU;split <;> rfl
 · (try rw [hf_]);(simp only [QC];done)
theorem JgZ (G:J5) (vs_p:Bv) (p:We) (h_p:WK.R G vs_p p) (now:Int) :QZ 169 #[.agg vs_p.toArray,I now] G (.tuple #[.agg #[I (((Wa p now).1).least),I (((Wa p now).1).most),I (((Wa p now).1).lost),I (((Wa p now).1).gap),I (((Wa p now).1).next),I (((Wa p now).1).asked)],I ((Wa p now).2)]):=by
 obtain ⟨rfl,w1,w2,w3,w4,w5,w6⟩:=h_p
 refine JP Tryz.func169 27 [(0,.agg #[I p.least,I p.most,I p.lost,I p.gap,I p.next,I p.asked]),(1,I now)] rfl (fun w0 G0=>?_)
 refine Jf (Jd (Jv 2 #[I p.least,I p.most,I p.lost,I p.gap,I p.next,I p.asked] 143 (fun b1=>Jv 4 #[I 0,I 0,I 0,I 0,I 0,I 0] 143 (fun b2=>Jb [0] [] (Je (Jc (Jf (Jf (Jd (Jb [4,0] [(7,.agg #[I p.least,I p.most,I p.lost,I p.gap,I p.next,I p.asked]),(8,I now)] (Jm 9 (I (KP p now)) (JbV G [I p.least,I p.most,I p.lost,I p.gap,I p.next,I p.asked] p (⟨rfl,w1,w2,w3,w4,w5,w6⟩) now) (Jb [0] [(6,I (KP p now))] (Je (Jc (Jg [0,0] [(11,Bo (!decide (KP p now=0)))] (Jl (!decide (KP p now=0)) (fun h1=>?_) (fun h1=>?_)))))))))))))))))
 refine Jg [0,0,3,0] [(5,I (KP p now))] (Jn (Jj (Jo [0,0] [.agg #[I 0,I 0,I 0,I 0,I 0,I 0],I (KP p now)] (Jx (Jh _) ?_))))
 have hf_:(Wa p now)=((⟨0,0,0,0,0,0⟩:We),(KP p now)):=by
  unfold Wa VU;(repeat' split) <;> rfl
 · (try rw [hf_]);(simp only [QC];done)
 refine Jq (Jc (QF [0,4,0,5,0,5] [] [[Sg b2 0 [I 0,I 0,I 0,I 0,I 0,I 0]],[Sg b1 0 [I p.least,I p.most,I p.lost,I p.least,I p.next,I 0]]] (Jf (Kt [8] (Wm [(0,Pt b1 4),(1,I p.next),(2,I now),(3,Pt b1 0),(4,I p.least),(5,I (K4 now p.least)),(6,I (if (K4 now p.least)<p.next then (K4 now p.least) else p.next)),(7,Pt b1 4)] (JF [] [(0,0),(1,4),(2,0),(3,0),(4,4),(6,0),(7,0)] [5] [8] (Kf ?_ KY) (Kf ?_ KY)))))))
 refine Jr 5 23 (I (K4 now p.least)) [(20,I now),(22,I p.least)] (fun X=>?_)
 exact Jm 23 (I (K4 now p.least)) (JcP G now p.least (by (have q_:=Jcc (p:=p) (now:=now) ‹_›;omega))) Jp
 refine Jz 8 [(24,I (if (K4 now p.least)<p.next then (K4 now p.least) else p.next)),(25,Pt b1 4)] (fun X=>?_)
 refine KC 1 [[Sg b2 0 [I 0,I 0,I 0,I 0,I 0,I 0]],[Sg b1 0 [I p.least,I p.most,I p.lost,I p.least,I (if (K4 now p.least)<p.next then (K4 now p.least) else p.next),I 0]]] (J6 [] (Kl [0,1,2,3,4,5,6,7] [] [] [(2,Pt b1 0),(4,Pt b2 0)] (Ha _) (Jc (QF [4,3,0] [(5,I 0)] [[Sg b2 0 [I p.least,I p.most,I p.lost,I p.least,I (if (K4 now p.least)<p.next then (K4 now p.least) else p.next),I 0]],[Sg b1 0 [I p.least,I p.most,I p.lost,I p.least,I (if (K4 now p.least)<p.next then (K4 now p.least) else p.next),I 0]]] (Jn (Jo [0,0] [.agg #[I p.least,I p.most,I p.lost,I p.least,I (if (K4 now p.least)<p.next then (K4 now p.least) else p.next),I 0],I 0] (Jx (Jh _) ?_)))))))
 have hf_:(Wa p now)=((⟨p.least,p.most,p.lost,p.least,if (K4 now p.least)<p.next then (K4 now p.least) else p.next,0⟩:We),0):=by
  unfold Wa VU;(repeat' split) <;> first | rfl | (exfalso;omega)
 · (try rw [hf_]);(simp only [QC];done)
theorem JcQ (G:J5) (vs_p:Bv) (p:We) (h_p:WK.R G vs_p p) :QZ 171 #[.agg vs_p.toArray] G (.tuple #[Bo ((Wp p).1),I ((Wp p).2)]):=by
 obtain ⟨rfl,w1,w2,w3,w4,w5,w6⟩:=h_p
 refine JP Tryz.func171 17 [(0,.agg #[I p.least,I p.most,I p.lost,I p.gap,I p.next,I p.asked])] rfl (fun w0 G0=>?_)
 refine Jf (Jd (Jv 1 #[I p.least,I p.most,I p.lost,I p.gap,I p.next,I p.asked] 143 (fun b1=>Jb [0,0] [] (Je (Jc (Jf (Jd (Jb [2] [(5,.agg #[I p.least,I p.most,I p.lost,I p.gap,I p.next,I p.asked])] (Jm 6 (I (KL p)) (Jba G [I p.least,I p.most,I p.lost,I p.gap,I p.next,I p.asked] p (⟨rfl,w1,w2,w3,w4,w5,w6⟩)) (Jb [0] [(4,I (KL p))] (Je (Jc (Jf (Jd (Jb [0,0,0] [(9,Bo (decide (KL p=0)))] (Ks (decide (KL p=0)) [9] [0,2,0,2,0,0] [1,1,1,1,1,0] (fun bb=>[(15,Bo (bb && (decide (p.asked ≥ p.lost))))]) (Jb [0,0,0] [(2,Bo ((decide (KL p=0)) && (decide (p.asked ≥ p.lost)))),(3,I (KL p))] (Je (Jc (Jn (Jo [0,0] [Bo ((decide (KL p=0)) && (decide (p.asked ≥ p.lost))),I (KL p)] (Jx (Jh _) ?_))))))))))))))))))))))
 have hf_:(Wp p)=(((decide (KL p=0)) && (decide (p.asked ≥ p.lost))),(KL p)):=by
  rfl
 · (try rw [hf_]);(simp only [QC];done)
def Jcd:Ve:=⟨0,[]⟩
def Jfc (l:JU) (n:Ve):Bool:=decide (l.due≤n.now)
def Ql (n:Ve):Int:=if n.now<0∨1000000000<n.now then 4 else if 60<n.way.length then 7 else if (n.way.any fun x0=>Jfc x0 n)=true then 4 else 0
theorem QY {n:Ve} (h:Ql n=0):0≤n.now∧n.now≤1000000000∧n.way.length≤60∧∀ l∈n.way,n.now<l.due:=by
 unfold Ql at h
 split at h
 · cases h
 split at h
 · cases h
 split at h
 · cases h
 ·
  rename_i h1 h2 h3
  refine ⟨by omega,by omega,by omega,fun l hl=>?_⟩
  have:¬ Jfc l n=true:=fun hc=>h3 (Hu.2 ⟨l,hl,hc⟩)
  unfold Jfc at this
  simpa using this
def VM (k:Int):Bool:=decide (k<1) || decide (k > 100)
theorem JlO {l:List Int} {i:Nat} {x:Int} (h:(l.any fun x0=>VM x0)=false) (hx:l[i]? = some x):1≤x∧x≤100:=by
 have:=List.any_eq_false.1 h x (Hr hx)
 unfold VM at this
 simp at this;omega
def JoI (l:JU) (d:Int):JU:=⟨l.to_,l.from_,l.since,d,l.heads,l.reply⟩
def Kz (n:Ve) (l:JU) (fates:List Int):Ve×Int :=
 if Ql n ≠ 0 then (Jcd,Ql n) else if (fates.any fun x0=>VM x0)=true then (Jcd,4) else if (fates.length:Int) > 60-(n.way.length:Int) then (Jcd,7) else (⟨n.now,n.way++fates.map fun k=>JoI l (n.now+k)⟩,0)
def Ku (n:Ve):Ve×List JU×Int :=
 if Ql n ≠ 0 then (Jcd,[],Ql n) else if n.now=1000000000 then (Jcd,[],9) else (⟨n.now+1,n.way.filter fun l=>!decide (l.due=n.now+1)⟩,n.way.filter fun l=>decide (l.due=n.now+1),0)
theorem Jm2 {α:Type} {l:List α} {i:Nat} {x:α} (h:l[i]? = some x):l.take i++[x]=l.take (i+1):=by rw [Hj,h];rfl
theorem JoJ {α β:Type} {l:List α} {i:Nat} {x:α} (f:α→β) (h:l[i]? = some x):(l.take i).map f++[f x]=(l.take (i+1)).map f:=by rw [Hj,h];simp
theorem JeY {α:Type} {l:List α} {i:Nat} {x:α} {p:α→Bool} (h:l[i]? = some x) (hp:p x=true):(l.take i).filter p++[x]=(l.take (i+1)).filter p:=by rw [Hj,h];simp [hp]
theorem JeZ {α:Type} {l:List α} {i:Nat} {x:α} {p:α→Bool} (h:l[i]? = some x) (hp:p x=false):(l.take i).filter p=(l.take (i+1)).filter p:=by rw [Hj,h];simp [hp]
theorem Wf {α:Type} (p:α→Bool) (l:List α) (i:Nat):((l.take i).filter p).length≤l.length:=Hf (HB _ _) (List.length_take_le' i l)
theorem Je0 (G:J5) (vs_l:Bv) (l:JU) (h_l:Kn.R G vs_l l) :YS 109 #[.agg vs_l.toArray] G [] (fun u G' L'=>∃ (a1:Ba) (c2:Nat) (a3:Ba) (c4:Nat) (a5:Ba) (c6:Nat),u=.agg #[I l.to_,I l.from_,I l.since,I l.due,Sl a1 l.heads.length c2,I l.reply.head.epoch,U l.reply.head.root,U l.reply.head.prev,I l.reply.head.at_,Sr l.reply.proof.name,Sl a3 l.reply.proof.entries.length c4,Sl a5 l.reply.proof.sides.length c6]∧(rI l.to_)∧(rI l.from_)∧(rI l.since)∧(rI l.due)∧(RS KO G' a1 c2 l.heads)∧(rI l.reply.head.epoch)∧(rU l.reply.head.root)∧(rU l.reply.head.prev)∧(rI l.reply.head.at_)∧((l.reply.proof.name).length≤140737488351232)∧(RS QK G' a3 c4 l.reply.proof.entries)∧(RS EU G' a5 c6 l.reply.proof.sides)∧L'=[]):=by
 obtain ⟨a1,c1,a2,c2,a3,c3,rfl,w1,w2,w3,w4,hs1,w5,w6,w7,w8,w9,hs2,hs3⟩:=h_l
 refine JP Tryz.func109 24 [(0,(Q1 l a1 c1 a2 c2 a3 c3))] rfl (fun w0 G0=>?_)
 refine Jf (Jd (Jv 1 #[I l.to_,I l.from_,I l.since,I l.due,Sl a1 l.heads.length c1,I l.reply.head.epoch,U l.reply.head.root,U l.reply.head.prev,I l.reply.head.at_,Sr l.reply.proof.name,Sl a2 l.reply.proof.entries.length c2,Sl a3 l.reply.proof.sides.length c3] 51 (fun b1=>Jv 2 #[I 0,I 0,I 0,I 0,Sl none 0 0,I 0,U 0,U 0,I 0,Sr ([]),Sl none 0 0,Sl none 0 0] 51 (fun b2=>Je (Jc (Jf (Jd (Jb [0,4] [(4,Sl a1 l.heads.length c1)] (JN 5 (VI G a1 c1 l.heads hs1) (fun v G1 L1 hl1 hp=>?_))))))))))
 obtain ⟨a4,c4,r1,rfl,hr1,rfl⟩:=hp
 refine JW [0,7] [] [r1,[Sg b2 0 [I 0,I 0,I 0,I 0,Sl none 0 0,I 0,U 0,U 0,I 0,Sr ([]),Sl none 0 0,Sl none 0 0]],[Sg b1 0 (Ky l a4 c4 a2 c2 a3 c3)]] (Je (Jc (Jf (Jd (Jb [0,0,0,6] [(10,Sl a2 l.reply.proof.entries.length c2)] (JN 11 (YU G1 a2 c2 l.reply.proof.entries (hs2.mono hl1)) (fun v G2 L1 hl2 hp=>?_)))))))
 obtain ⟨a5,c5,r2,rfl,hr2,rfl⟩:=hp
 refine JW [0,0,0,9] [] [r2,r1,[Sg b2 0 [I 0,I 0,I 0,I 0,Sl none 0 0,I 0,U 0,U 0,I 0,Sr ([]),Sl none 0 0,Sl none 0 0]],[Sg b1 0 (Ky l a4 c4 a5 c5 a3 c3)]] (Je (Jc (Jf (Jd (Jb [0,0,0,8] [(18,Sl a3 l.reply.proof.sides.length c3)] (JN 19 (Jeg G2 a3 c3 l.reply.proof.sides (hs3.mono (Ja hl1 hl2))) (fun v G3 L1 hl3 hp=>?_)))))))
 obtain ⟨a6,c6,r3,rfl,hr3,rfl⟩:=hp
 refine JW [0,0,0,11] [] [r3,r2,r1,[Sg b2 0 [I 0,I 0,I 0,I 0,Sl none 0 0,I 0,U 0,U 0,I 0,Sr ([]),Sl none 0 0,Sl none 0 0]],[Sg b1 0 (Ky l a4 c4 a5 c5 a6 c6)]] (Je (Jc (QF [10,9] [] [r3,r2,r1,[Sg b2 0 (Ky l a4 c4 a5 c5 a6 c6)],[Sg b1 0 (Ky l a4 c4 a5 c5 a6 c6)]] (Jn (Wy (E:=KO) 2 (hr1.mono (Ja hl2 hl3)) (by exact (hs1).fit) (fun G4 hl4 hs4=>Wy (E:=QK) 1 (hr2.mono (Ja hl3 hl4)) (by exact (hs2.mono hl1).fit) (fun G5 hl5 hs5=>Wy (E:=EU) 0 (hr3.mono (Ja hl4 hl5)) (by exact (hs3.mono (Ja hl1 hl2)).fit) (fun G6 hl6 hs6=>?_))))))))
 have hf1:l=l:=by
  rfl
 refine Jo [3] [(Q1 l a4 c4 a5 c5 a6 c6)] (JD [] (Ja (Ja (Ja (Ja (Ja hl1 hl2) hl3) hl4) hl5) hl6) ?_)
 rw [hf1]
 try dsimp only
 exact ⟨a4,c4,a5,c5,a6,c6,rfl,w1,w2,w3,w4,(hs4.mono (Ja hl5 hl6)),w5,w6,w7,w8,w9,(hs5.mono hl6),hs6,rfl⟩
theorem JbO (G:J5) (a_l:Ba) (c_l:Nat) (l:List JU) (h_l:RS Kn G a_l c_l l) (hf:l.length*152≤140737488351232):YS 108 #[Sl a_l l.length c_l] G [] (fun u G' L'=>∃ (a1:Ba) (c2:Nat) (r3:Bg),u=Sl a1 l.length c2∧(JR Kn G' a1 c2 l r3)∧L'=[r3]):=by
 refine JP Tryz.func108 19 [(0,Sl a_l l.length c_l)] rfl (fun w0 G0=>?_)
 refine Jg [0] [] (Jg [0] [(3,Sl none 0 0)] (Jf (Jg [0,0,0] [(6,Sl a_l l.length c_l),(7,I (l.length:Int)),(8,I 0)] (Jy (ZA ?_)))))
 have hlm_h_l:l.length≤9223372036854775807:=Hf (h_l).le (h_l).max
 refine Qc (σ:=Nat×Ba×Nat×Bg×List JU×J5) (fun q_=>(J5.le G q_.2.2.2.2.2)∧(q_.1≤l.length)∧(JR Kn q_.2.2.2.2.2 q_.2.1 q_.2.2.1 q_.2.2.2.2.1 q_.2.2.2.1)∧(q_.2.2.2.2.1=l.take q_.1)) (fun q_=>[(3,Sl q_.2.1 q_.2.2.2.2.1.length q_.2.2.1),(6,Sl a_l l.length c_l),(7,I (l.length:Int)),(8,I (q_.1:Int))]) (fun q_=>q_.2.2.2.2.2) (fun q_=>[q_.2.2.2.1]) (fun q_=>l.length-q_.1) (0,none,0,[],[],G) ⟨(Jh _),(by (try dsimp only);exact Hs _),(JR.none Kn _),(by (try dsimp only);rfl)⟩ (fun q_ hs=>?_)
 obtain ⟨i,ao,co,ro,xo,g⟩:=q_
 obtain ⟨hle,hi,hro,hxo⟩:=hs
 dsimp only at hle hi hro hxo
 dsimp only
 refine Jg [0] [(9,Bo (decide ((i:Int)<(l.length:Int))))] (Jf (Jl (decide ((i:Int)<(l.length:Int))) (fun h1=>?_) (fun h1=>?_)))
 refine Jq (Jc (Jf (Jy (Jf (Jd ?_)))))
 obtain ⟨b1,o1,rfl⟩:=RS.addr (h_l.mono hle) (k:=i) (by omega)
 obtain ⟨x1,hx1⟩:=QS (l:=l) (k:=i) (by omega)
 obtain ⟨_,⟨a1,c1,a2,c2,a3,c3,rfl,w1,w2,w3,w4,hs1,w5,w6,w7,w8,w9,hs2,hs3⟩,hc1⟩:=RS.get (h_l.mono hle) hx1
 refine JV (b:=b1) (off:=o1) (len:=l.length) (cap:=c_l) (ik:=.i64) 10 51 12 i J4 (JO 11 51 (cs:=(Ky x1 a1 c1 a2 c2 a3 c3)) 0 (Q1 x1 a1 c1 a2 c2 a3 c3) hc1 (Jv 5 #[I 0,I 0,I 0,I 0,Sl none 0 0,I 0,U 0,U 0,I 0,Sr ([]),Sl none 0 0,Sl none 0 0] 51 (fun b2=>JW [3] [] [[Sg b2 0 (Ky x1 a1 c1 a2 c2 a3 c3)],ro] (Je (Jc (Jd (Jb [0,2] [(12,Sl ao xo.length co),(13,(Q1 x1 a1 c1 a2 c2 a3 c3))] (JN 14 (Je0 g (Ky x1 a1 c1 a2 c2 a3 c3) x1 (⟨a1,c1,a2,c2,a3,c3,rfl,w1,w2,w3,w4,hs1,w5,w6,w7,w8,w9,hs2,hs3⟩)) (fun v G1 L1 hl1 hp=>?_)))))))))
 obtain ⟨a4,c4,a5,c5,a6,c6,rfl,w10,w11,w12,w13,hs4,w14,w15,w16,w17,w18,hs5,hs6,rfl⟩:=hp
 exact Km 15 1 #[I x1.to_,I x1.from_,I x1.since,I x1.due,Sl a4 x1.heads.length c4,I x1.reply.head.epoch,U x1.reply.head.root,U x1.reply.head.prev,I x1.reply.head.at_,Sr x1.reply.proof.name,Sl a5 x1.reply.proof.entries.length c5,Sl a6 x1.reply.proof.sides.length c6] 51 (fun b3=>Qd (b:=b3) (cs:=(Ky x1 a4 c4 a5 c5 a6 c6)) 16 51 2 0 (E:=Kn) x1 (hro.mono hl1) ⟨a4,c4,a5,c5,a6,c6,rfl,w10,w11,w12,w13,hs4,w14,w15,w16,w17,w18,hs5,hs6⟩ (by have q1_:=congrArg Hn hxo;(try simp only [Kn,Hc,He,Hh,Hm,Hl] at *);omega) (by have q1_:=congrArg Hn hxo;(try simp only [Kn,Hc,He,Hh,Hm,Hl] at *);omega) (fun a7 c7 r1 hr1=>Jb [0] [(3,Sl a7 ((xo++[x1]).length) c7)] (Je (JM (Jc (Jd (Jb [0,0] [(8,I (Hb.wrap ((i:Int)+1)))] (Kp 8 ((i:Int)+1) J4 (Je (Qy [r1] (Qh (i+1,a7,c7,r1,xo++[x1],G1) ⟨(Ja hle hl1),J4,hr1,(by rw [hxo];exact Jm2 hx1)⟩ (by (try dsimp only);omega))))))))))))
 refine KX (J1 (Kd (JS (Jc (Jg [0,0] [(2,Sl ao xo.length co)] (Jn (Jk 0 ?_)))))))
 have hf1:l=xo:=by
  rw [hxo,Hk (by omega)]
 refine Jo [0] [Sl ao xo.length co] (JD [ro] hle ?_)
 rw [hf1]
 try dsimp only
 exact ⟨ao,co,ro,rfl,hro,rfl⟩
theorem JoK (G:J5) (vs_l:Bv) (l:JU) (h_l:Kn.R G vs_l l) (vs_n:Bv) (n:Ve) (h_n:ENet.R G vs_n n) (b_n:Nat) (hz_n:∀ j v,(vs_n:Bv)[j]? = some v→G b_n (0+j)=some v) :QZ 159 #[.agg vs_l.toArray,Pt b_n 0] G (Bo (Jfc l n)):=by
 obtain ⟨a1,c1,a2,c2,a3,c3,rfl,_,_,_,_,_,_,_,_,_,_,_,_⟩:=h_l
 obtain ⟨a4,c4,rfl,_,_⟩:=h_n
 refine JP Tryz.func159 9 [(0,(Q1 l a1 c1 a2 c2 a3 c3)),(1,Pt b_n 0)] rfl (fun w0 G0=>?_)
 refine Jf (Jd (Jv 2 #[I l.to_,I l.from_,I l.since,I l.due,Sl a1 l.heads.length c1,I l.reply.head.epoch,U l.reply.head.root,U l.reply.head.prev,I l.reply.head.at_,Sr l.reply.proof.name,Sl a2 l.reply.proof.entries.length c2,Sl a3 l.reply.proof.sides.length c3] 51 (fun b1=>Jb [0] [] (Je (Jc (Jf (Jd (Jb [0,2,0] [(5,I l.due),(6,Pt b_n 0)] (JO (o':=0) 7 2 (cs:=[I n.now,Sl a4 n.way.length c4]) 0 (I n.now) hz_n (Jb [0,0] [(3,Bo (decide (l.due≤n.now)))] (Je (Jc (Jn (Jo [0] [Bo (decide (l.due≤n.now))] (Jx (Jh _) (congrArg Bo (?_:(Jfc l n)=(decide (l.due≤n.now))).symm))))))))))))))))
 rfl
theorem JdT (G:J5) (vs_n:Bv) (n:Ve) (h_n:ENet.R G vs_n n) :QZ 105 #[.agg vs_n.toArray] G (I (Ql n)):=by
 obtain ⟨a1,c1,rfl,w1,hs1⟩:=h_n
 refine JP Tryz.func105 22 [(0,.agg #[I n.now,Sl a1 n.way.length c1])] rfl (fun w0 G0=>?_)
 refine Jf (Jd (Jv 1 #[I n.now,Sl a1 n.way.length c1] 65 (fun b1=>Jb [0] [] (Je (Jc (Jf (Jy (Jf (Jd (Jb [0,2,0,0] [(7,Bo (decide (n.now<0)))] (Ks (decide (n.now<0)) [7] [1,1,1,0] [0,2,0,0] (fun bb=>[(11,Bo (bb || (decide (n.now > 1000000000))))]) (Jb [0] [(3,Bo ((decide (n.now<0)) || (decide (n.now > 1000000000))))] (Je (Jc (Jl ((decide (n.now<0)) || (decide (n.now > 1000000000))) (fun h1=>?_) (fun h1=>?_))))))))))))))))
 refine Jg [0] [(2,I 4)] (Jn (Ju (Jj (Jo [0] [I 4] (Jx (Jh _) (congrArg I (?_:(Ql n)=4).symm))))))
 · unfold Ql;(rw [if_pos (by omega)];done)
 refine Jg [0,2,0,0,0] [(12,Bo (decide ((n.way.length:Int) > 60)))] (Jl (decide ((n.way.length:Int) > 60)) (fun h2=>?_) (fun h2=>?_))
 refine Jg [0] [(2,I 7)] (Jn (Ju (Jj (Jo [0] [I 7] (Jx (Jh _) (congrArg I (?_:(Ql n)=7).symm))))))
 · unfold Ql;(rw [if_neg (by omega),if_pos (by omega)];done)
 refine Jf (Jd (Jb [0,2,0] [(19,Sl a1 n.way.length c1),(20,Fv 159 #[Pt b1 0])] (QI (b:=b1) (o:=0) (cs:=[I n.now,Sl a1 n.way.length c1]) 0 (fun G1 hl1 hz1=>Jm 21 (Bo (n.way.any (fun x0=>Jfc x0 n))) (Jh0 G1 a1 c1 n.way (hs1.mono hl1) 159 #[Pt b1 0] (fun x0=>Jfc x0 n) (fun _ _=>by kernel_rfl) (fun vs0 x0 hx0=>by obtain ⟨a2,c2,a3,c3,a4,c4,rfl,w2,w3,w4,w5,hs2,w6,w7,w8,w9,w10,hs3,hs4⟩:=hx0;exact JoK G1 (Ky x0 a2 c2 a3 c3 a4 c4) x0 (⟨a2,c2,a3,c3,a4,c4,rfl,w2,w3,w4,w5,hs2,w6,w7,w8,w9,w10,hs3,hs4⟩) [I n.now,Sl a1 n.way.length c1] n (⟨a1,c1,rfl,w1,(hs1.mono hl1)⟩) b1 hz1)) (Jb [0] [(17,Bo (n.way.any (fun x0=>Jfc x0 n)))] (Je (Jc (Jl (n.way.any (fun x0=>Jfc x0 n)) (fun h3=>?_) (fun h3=>?_)))))))))
 refine Jg [0] [(2,I 4)] (Jn (Ju (Jj (Jo [0] [I 4] (Jx hl1 (congrArg I (?_:(Ql n)=4).symm))))))
 · unfold Ql;(rw [if_neg (by omega),if_neg (by omega)];simp_all;done)
 refine Jq (JM (Jc (Jg [0] [(2,I 0)] (Jn (Jo [0] [I 0] (Jx hl1 (congrArg I (?_:(Ql n)=0).symm)))))))
 · unfold Ql;(rw [if_neg (by omega),if_neg (by omega)];simp_all;done)
theorem JjB (G:J5) (k:Int) :QZ 107 #[I k] G (Bo (VM k)):=by
 refine JP Tryz.func107 9 [(0,I k)] rfl (fun w0 G0=>?_)
 refine Jg [0] [] (Jf (Jd (Jb [0,0,0] [(5,Bo (decide (k<1)))] (Ks (decide (k<1)) [5] [1,1,0] [0,0,0] (fun bb=>[(8,Bo (bb || (decide (k > 100))))]) (Jb [0] [(2,Bo ((decide (k<1)) || (decide (k > 100))))] (Je (Jc (Jn (Jo [0] [Bo ((decide (k<1)) || (decide (k > 100)))] (Jx (Jh _) (congrArg Bo (?_:(VM k)=((decide (k<1)) || (decide (k > 100)))).symm)))))))))))
 rfl
set_option maxRecDepth 20000 in
theorem Y2 (G:J5) (vs_n:Bv) (n:Ve) (h_n:ENet.R G vs_n n) (vs_l:Bv) (l:JU) (h_l:Kn.R G vs_l l) (a_fates:Ba) (c_fates:Nat) (fates:List Int) (h_fates:RS EI G a_fates c_fates fates) :YS 63 #[.agg vs_n.toArray,.agg vs_l.toArray,Sl a_fates fates.length c_fates] G [] (fun u G' L'=>∃ (a1:Ba) (c2:Nat),u=.tuple #[.agg #[I (((Kz n l fates).1).now),Sl a1 ((((Kz n l fates).1).way).length) c2],I ((Kz n l fates).2)]∧(rI (((Kz n l fates).1).now))∧(RS Kn G' a1 c2 (((Kz n l fates).1).way))∧L'=[]):=by
 obtain ⟨a1,c1,rfl,w1,hs1⟩:=h_n
 obtain ⟨a2,c2,a3,c3,a4,c4,rfl,_,_,_,_,hs2,_,_,_,_,_,hs3,hs4⟩:=h_l
 refine JP Tryz.func63 60 [(0,.agg #[I n.now,Sl a1 n.way.length c1]),(1,(Q1 l a2 c2 a3 c3 a4 c4)),(2,Sl a_fates fates.length c_fates)] rfl (fun w0 G0=>?_)
 refine Jf (Jd (Jv 3 #[I n.now,Sl a1 n.way.length c1] 65 (fun b1=>Jv 4 #[I l.to_,I l.from_,I l.since,I l.due,Sl a2 l.heads.length c2,I l.reply.head.epoch,U l.reply.head.root,U l.reply.head.prev,I l.reply.head.at_,Sr l.reply.proof.name,Sl a3 l.reply.proof.entries.length c3,Sl a4 l.reply.proof.sides.length c4] 51 (fun b2=>Jv 6 #[I 0,Sl none 0 0] 65 (fun b3=>Jb [0] [] (Je (Jc (Jf (Jd (Jb [6] [(13,.agg #[I n.now,Sl a1 n.way.length c1])] (Jm 14 (I (Ql n)) (JdT G [I n.now,Sl a1 n.way.length c1] n (⟨a1,c1,rfl,w1,hs1⟩)) (Jb [0] [(8,I (Ql n))] (Je (Jc (Jf (Jy (Jg [0,0,0] [(15,Bo (!decide (Ql n=0)))] (Jl (!decide (Ql n=0)) (fun h1=>?_) (fun h1=>?_)))))))))))))))))))
 refine Jg [0,0,3,0] [(7,I (Ql n))] (Jn (Ju (Jj ?_)))
 have hf1:Kz n l fates=((⟨0,[]⟩:Ve),Ql n):=by
  unfold Kz Jcd;(simp_all;done)
 refine Jo [0,0] [.agg #[I 0,Sl none 0 0],I (Ql n)] (JD [] (Jh _) ?_)
 rw [hf1]
 try dsimp only
 exact ⟨none,0,rfl,J4,(J2 Kn G),rfl⟩
 refine Jf (Jd (Jb [0] [(21,Sl a_fates fates.length c_fates)] (Jm 22 (Bo (fates.any (fun x0=>VM x0))) (JpQ G a_fates c_fates fates h_fates 107 #[] (fun x0=>VM x0) (fun _ _=>by kernel_rfl) (fun x0 hx0=>JjB G x0)) (Jb [0] [(20,Bo (fates.any (fun x0=>VM x0)))] (Je (Jc (Jl (fates.any (fun x0=>VM x0)) (fun h2=>?_) (fun h2=>?_))))))))
 refine Jg [0,3,0] [(7,I 4)] (Jn (Ju (Jj ?_)))
 have hf2:Kz n l fates=((⟨0,[]⟩:Ve),4):=by
  unfold Kz Jcd;(simp_all;done)
 refine Jo [0,0] [.agg #[I 0,Sl none 0 0],I 4] (JD [] (Jh _) ?_)
 rw [hf2]
 try dsimp only
 exact ⟨none,0,rfl,J4,(J2 Kn G),rfl⟩
 refine Jg [0,0,0,6,0,0,0,0] [(24,Bo (decide ((fates.length:Int) > Hb.wrap (60-(n.way.length:Int)))))] ?_
 have e1:Hb.wrap (60-(n.way.length:Int))=60-(n.way.length:Int):=Ho _ (by (have q_:=QY ‹_›;omega))
 refine QU 24 (Bo (decide ((fates.length:Int) > 60-(n.way.length:Int)))) (show (Bo (decide ((fates.length:Int) > Hb.wrap (60-(n.way.length:Int)))):Value)=Bo (decide ((fates.length:Int) > 60-(n.way.length:Int))) by simp only [e1]) ?_
 clear e1
 refine Jl (decide ((fates.length:Int) > 60-(n.way.length:Int))) (fun h3=>?_) (fun h3=>?_)
 refine Jg [0,3,0] [(7,I 7)] (Jn (Ju (Jj ?_)))
 have hf3:Kz n l fates=((⟨0,[]⟩:Ve),7):=by
  unfold Kz Jcd;(simp_all;done)
 refine Jo [0,0] [.agg #[I 0,Sl none 0 0],I 7] (JD [] (Jh _) ?_)
 rw [hf3]
 try dsimp only
 exact ⟨none,0,rfl,J4,(J2 Kn G),rfl⟩
 refine Jq (JM (Jc ?_))
 refine Ye (σ:=Nat×Ba×Nat×Bg×J5) (fun q_=>(J5.le G q_.2.2.2.2)∧(JR Kn q_.2.2.2.2 q_.2.1 q_.2.2.1 n.way q_.2.2.2.1)) (fun q_=>[(2,Sl a_fates fates.length c_fates),(3,Pt b1 0),(4,Pt b2 0),(6,Pt b3 0),(9,Pt q_.1 0)]) (fun q_=>q_.2.2.2.2) (fun q_=>[[Sg q_.1 0 [I n.now,Sl q_.2.1 n.way.length q_.2.2.1]],q_.2.2.2.1,[Sg b3 0 [I 0,Sl none 0 0]],[Sg b2 0 (Ky l a2 c2 a3 c3 a4 c4)],[Sg b1 0 [I n.now,Sl a1 n.way.length c1]]]) ?_ (fun q_ hs=>?_)
 refine Kt [4,6,7] (Wm [(0,Pt b1 0),(1,I n.now),(2,Pt b1 1),(3,Sl a1 n.way.length c1)] (JF [] [(0,0),(1,6),(2,0),(3,6)] [] [4,6] (Ha _) (Kf ?_ (Kf ?_ KY))))
 refine Jz 4 [(36,Sl a1 n.way.length c1)] (fun X=>?_)
 refine JN 37 (JbO G a1 c1 n.way hs1 (by (have q_:=QY ‹_›;omega))) (fun v G1 L1 hl1 hp=>?_)
 obtain ⟨a5,c5,r1,rfl,hr1,rfl⟩:=hp
 refine JA [(4,Sl a5 n.way.length c5),(5,.agg #[I n.now,Sl a5 n.way.length c5])] (JF [2,3] [(0,0),(1,8),(5,0)] [] [6] (Ha _) (Kf ?_ KY))
 refine Jz 6 [] (fun X=>?_)
 refine Jv 9 #[I 0,Sl none 0 0] 65 (fun b4=>JA [(6,Pt b4 0)] (JF [2,3] [(0,0),(1,10),(5,0)] [] [7] (Ha _) (Kf ?_ KY)))
 refine Jz 7 [(9,Pt b4 0),(38,.agg #[I n.now,Sl a5 n.way.length c5])] (fun X=>?_)
 exact KC 0 [[Sg b4 0 [I n.now,Sl a5 n.way.length c5]],r1,[Sg b3 0 [I 0,Sl none 0 0]],[Sg b2 0 (Ky l a2 c2 a3 c3 a4 c4)],[Sg b1 0 [I n.now,Sl a1 n.way.length c1]]] (J6 [] (Kl [0,1,2,3,5] [] [] [(2,Sl a_fates fates.length c_fates),(3,Pt b1 0),(4,Pt b2 0),(6,Pt b3 0),(9,Pt b4 0)] (Ha _) (QW (b4,a5,c5,r1,G1) ⟨hl1,hr1⟩)))
 refine Jz 6 [] (fun X=>?_)
 refine Jv 9 #[I 0,Sl none 0 0] 65 (fun b5=>JA [(6,Pt b5 0)] (JF [] [(0,0),(1,8),(2,0),(3,8)] [] [4] (Ha _) (Kf ?_ KY)))
 refine Jz 4 [(36,Sl a1 n.way.length c1)] (fun X=>?_)
 refine JN 37 (JbO G a1 c1 n.way hs1 (by (have q_:=QY ‹_›;omega))) (fun v G2 L1 hl2 hp=>?_)
 obtain ⟨a6,c6,r2,rfl,hr2,rfl⟩:=hp
 refine JA [(4,Sl a6 n.way.length c6),(5,.agg #[I n.now,Sl a6 n.way.length c6])] (JF [2,3] [(0,0),(1,10),(5,0)] [] [7] (Ha _) (Kf ?_ KY))
 refine Jz 7 [(9,Pt b5 0),(38,.agg #[I n.now,Sl a6 n.way.length c6])] (fun X=>?_)
 exact KC 1 [r2,[Sg b5 0 [I n.now,Sl a6 n.way.length c6]],[Sg b3 0 [I 0,Sl none 0 0]],[Sg b2 0 (Ky l a2 c2 a3 c3 a4 c4)],[Sg b1 0 [I n.now,Sl a1 n.way.length c1]]] (J6 [] (Kl [0,1,2,3,5] [] [] [(2,Sl a_fates fates.length c_fates),(3,Pt b1 0),(4,Pt b2 0),(6,Pt b3 0),(9,Pt b5 0)] (Ha _) (Jk 4 (Jk 4 (Jk 4 (Jk 3 (Jk 4 (QW (b5,a6,c6,r2,G2) ⟨hl2,hr2⟩))))))))
 obtain ⟨b4,a5,c5,r1,G1⟩:=q_
 obtain ⟨hle1,hj1⟩:=hs
 dsimp only at hle1 hj1
 dsimp only
 refine Jf (Jg [0,0,0] [(39,Sl a_fates fates.length c_fates),(40,I (fates.length:Int)),(41,I 0)] (Jy ?_))
 have hlm_h_fates:fates.length≤9223372036854775807:=Hf (h_fates).le (h_fates).max
 refine Qc (σ:=Nat×Ba×Nat×Bg×List JU×J5) (fun q_=>(J5.le G1 q_.2.2.2.2.2)∧(q_.1≤fates.length)∧(JR Kn q_.2.2.2.2.2 q_.2.1 q_.2.2.1 q_.2.2.2.2.1 q_.2.2.2.1)∧(q_.2.2.2.2.1=n.way++(fates.take q_.1).map fun k=>JoI l (n.now+k))) (fun q_=>[(3,Pt b1 0),(4,Pt b2 0),(6,Pt b3 0),(9,Pt b4 0),(39,Sl a_fates fates.length c_fates),(40,I (fates.length:Int)),(41,I (q_.1:Int))]) (fun q_=>q_.2.2.2.2.2) (fun q_=>[[Sg b4 0 [I n.now,Sl q_.2.1 q_.2.2.2.2.1.length q_.2.2.1]],q_.2.2.2.1,[Sg b3 0 [I 0,Sl none 0 0]],[Sg b2 0 (Ky l a2 c2 a3 c3 a4 c4)],[Sg b1 0 [I n.now,Sl a1 n.way.length c1]]]) (fun q_=>fates.length-q_.1) (0,a5,c5,r1,n.way,G1) ⟨(Jh _),(by (try dsimp only);exact Hs _),hj1,(by (try dsimp only);simp)⟩ (fun q_ hs=>?_)
 obtain ⟨i,aw,cw,rw,xw,g⟩:=q_
 obtain ⟨hle,hi,hrw,hxw⟩:=hs
 dsimp only at hle hi hrw hxw
 dsimp only
 refine Jg [0] [(42,Bo (decide ((i:Int)<(fates.length:Int))))] (Jf (Jl (decide ((i:Int)<(fates.length:Int))) (fun h4=>?_) (fun h4=>?_)))
 refine Jq (Jc (Jf (Jy (Jf (Jd ?_)))))
 obtain ⟨b6,o1,rfl⟩:=RS.addr (h_fates.mono (Ja hle1 hle)) (k:=i) (by omega)
 obtain ⟨x1,hx1⟩:=QS (l:=fates) (k:=i) (by omega)
 obtain ⟨_,⟨rfl,_⟩,hc1⟩:=RS.get (h_fates.mono (Ja hle1 hle)) hx1
 refine JV (b:=b6) (off:=o1) (len:=fates.length) (cap:=c_fates) (ik:=.i64) 43 3 1 i J4 (JO 44 3 (cs:=[I x1]) 0 (I x1) hc1 (Jb [0] [(11,I x1)] (Je (Jc (Jf (Jd (Jb [8] [(45,(Q1 l a2 c2 a3 c3 a4 c4))] (JN 46 (Je0 g (Ky l a2 c2 a3 c3 a4 c4) l (⟨a2,c2,a3,c3,a4,c4,rfl,‹_›,‹_›,‹_›,‹_›,(hs2.mono (Ja hle1 hle)),‹_›,‹_›,‹_›,‹_›,‹_›,(hs3.mono (Ja hle1 hle)),(hs4.mono (Ja hle1 hle))⟩)) (fun v G3 L1 hl3 hp=>?_)))))))))
 obtain ⟨a7,c7,a8,c8,a9,c9,rfl,_,_,_,_,hs5,_,_,_,_,_,hs6,hs7,rfl⟩:=hp
 refine Jv 12 #[I 0,I 0,I 0,I 0,Sl none 0 0,I 0,U 0,U 0,I 0,Sr ([]),Sl none 0 0,Sl none 0 0] 51 (fun b7=>JW [3] [] [[Sg b7 0 (Ky l a7 c7 a8 c8 a9 c9)],[Sg b4 0 [I n.now,Sl aw xw.length cw]],rw,[Sg b3 0 [I 0,Sl none 0 0]],[Sg b2 0 (Ky l a2 c2 a3 c3 a4 c4)],[Sg b1 0 [I n.now,Sl a1 n.way.length c1]]] (Je (Jc (QF [0,12,0,0,0,3] [] [[Sg b7 0 (Ky (⟨l.to_,l.from_,l.since,(Hb.wrap (n.now+x1)),l.heads,l.reply⟩:JU) a7 c7 a8 c8 a9 c9)],[Sg b4 0 [I n.now,Sl aw xw.length cw]],rw,[Sg b3 0 [I 0,Sl none 0 0]],[Sg b2 0 (Ky l a2 c2 a3 c3 a4 c4)],[Sg b1 0 [I n.now,Sl a1 n.way.length c1]]] ?_))))
 have e2:Hb.wrap (n.now+x1)=n.now+x1:=Ho _ (by (have q_:=QY ‹_›;have q1_:=JlO ‹_› ‹_›;omega))
 refine JcY (L':=[[Sg b7 0 [I l.to_,I l.from_,I l.since,I (n.now+x1),Sl a7 l.heads.length c7,I l.reply.head.epoch,U l.reply.head.root,U l.reply.head.prev,I l.reply.head.at_,Sr l.reply.proof.name,Sl a8 l.reply.proof.entries.length c8,Sl a9 l.reply.proof.sides.length c9]],[Sg b4 0 [I n.now,Sl aw xw.length cw]],rw,[Sg b3 0 [I 0,Sl none 0 0]],[Sg b2 0 [I l.to_,I l.from_,I l.since,I l.due,Sl a2 l.heads.length c2,I l.reply.head.epoch,U l.reply.head.root,U l.reply.head.prev,I l.reply.head.at_,Sr l.reply.proof.name,Sl a3 l.reply.proof.entries.length c3,Sl a4 l.reply.proof.sides.length c4]],[Sg b1 0 [I n.now,Sl a1 n.way.length c1]]]) (by simp only [Ky,Q1,e2];first | done | rfl) ?_
 clear e2
 exact Jd (Jb [0,4,2] [(53,Sl aw xw.length cw),(54,(Q1 (⟨l.to_,l.from_,l.since,(n.now+x1),l.heads,l.reply⟩:JU) a7 c7 a8 c8 a9 c9))] (Km 55 1 #[I l.to_,I l.from_,I l.since,I (n.now+x1),Sl a7 l.heads.length c7,I l.reply.head.epoch,U l.reply.head.root,U l.reply.head.prev,I l.reply.head.at_,Sr l.reply.proof.name,Sl a8 l.reply.proof.entries.length c8,Sl a9 l.reply.proof.sides.length c9] 51 (fun b8=>Qd (b:=b8) (cs:=(Ky (⟨l.to_,l.from_,l.since,(n.now+x1),l.heads,l.reply⟩:JU) a7 c7 a8 c8 a9 c9)) 56 51 3 0 (E:=Kn) (⟨l.to_,l.from_,l.since,n.now+x1,l.heads,l.reply⟩:JU) (hrw.mono hl3) ⟨a7,c7,a8,c8,a9,c9,rfl,‹_›,‹_›,‹_›,(by (dsimp only;(have q_:=QY ‹_›;have q1_:=JlO ‹_› ‹_›;omega))),hs5,‹_›,‹_›,‹_›,‹_›,‹_›,hs6,hs7⟩ (by have q_:=QY ‹_›;have q1_:=congrArg Hn hxw;(try simp only [Kn,Hc,He,Hh,Hm,Hl] at *);omega) (by have q_:=QY ‹_›;have q1_:=congrArg Hn hxw;(try simp only [Kn,Hc,He,Hh,Hm,Hl] at *);omega) (fun a10 c10 r3 hr3=>JW [0,7] [] [[Sg b8 0 (Ky (⟨l.to_,l.from_,l.since,(n.now+x1),l.heads,l.reply⟩:JU) a7 c7 a8 c8 a9 c9)],[Sg b7 0 (Ky (⟨l.to_,l.from_,l.since,(n.now+x1),l.heads,l.reply⟩:JU) a7 c7 a8 c8 a9 c9)],[Sg b4 0 [I n.now,Sl a10 ((xw++[(⟨l.to_,l.from_,l.since,n.now+x1,l.heads,l.reply⟩:JU)]).length) c10]],r3,[Sg b3 0 [I 0,Sl none 0 0]],[Sg b2 0 (Ky l a2 c2 a3 c3 a4 c4)],[Sg b1 0 [I n.now,Sl a1 n.way.length c1]]] (Je (JM (Jc (Jd (Jb [0,0] [(41,I (Hb.wrap ((i:Int)+1)))] (Kp 41 ((i:Int)+1) J4 (Je (Qy [[Sg b4 0 [I n.now,Sl a10 ((xw++[(⟨l.to_,l.from_,l.since,n.now+x1,l.heads,l.reply⟩:JU)]).length) c10]],r3,[Sg b3 0 [I 0,Sl none 0 0]],[Sg b2 0 (Ky l a2 c2 a3 c3 a4 c4)],[Sg b1 0 [I n.now,Sl a1 n.way.length c1]]] (Qh (i+1,a10,c10,r3,xw++[(⟨l.to_,l.from_,l.since,n.now+x1,l.heads,l.reply⟩:JU)],G3) ⟨(Ja hle hl3),J4,hr3,(by rw [hxw,Hy];exact congrArg _ (JoJ (fun k=>JoI l (n.now+k)) hx1))⟩ (by (try dsimp only);omega))))))))))))))
 refine KX (J1 (Kd (JS (Jc (QF [2,7,0] [(7,I 0)] [[Sg b4 0 [I n.now,Sl aw xw.length cw]],rw,[Sg b3 0 [I n.now,Sl aw xw.length cw]],[Sg b2 0 (Ky l a2 c2 a3 c3 a4 c4)],[Sg b1 0 [I n.now,Sl a1 n.way.length c1]]] (Jn (Wy (E:=Kn) 1 hrw (by have q_:=QY ‹_›;have q1_:=congrArg Hn hxw;(try simp only [Kn,Hc,He,Hh,Hm,Hl] at *);omega) (fun G4 hl4 hs8=>?_))))))))
 have hf4:Kz n l fates=((⟨n.now,xw⟩:Ve),0):=by
  unfold Kz Jcd;(rw [if_neg (by omega),if_neg (by simp_all),if_neg (by omega),hxw,Hk (by omega)])
 refine Jo [2,0] [.agg #[I n.now,Sl aw xw.length cw],I 0] (JD [] (Ja (Ja hle1 hle) hl4) ?_)
 rw [hf4]
 try dsimp only
 exact ⟨aw,cw,rfl,‹_›,hs8,rfl⟩
theorem JjC (G:J5) (vs_n:Bv) (n:Ve) (h_n:ENet.R G vs_n n) :YS 111 #[.agg vs_n.toArray] G [] (fun u G' L'=>∃ (a1:Ba) (c2:Nat) (a3:Ba) (c4:Nat),u=.tuple #[.agg #[I (((Ku n).1).now),Sl a1 ((((Ku n).1).way).length) c2],Sl a3 (((Ku n).2.1).length) c4,I ((Ku n).2.2)]∧(rI (((Ku n).1).now))∧(RS Kn G' a1 c2 (((Ku n).1).way))∧(RS Kn G' a3 c4 ((Ku n).2.1))∧L'=[]):=by
 obtain ⟨a1,c1,rfl,w1,hs1⟩:=h_n
 refine JP Tryz.func111 50 [(0,.agg #[I n.now,Sl a1 n.way.length c1])] rfl (fun w0 G0=>?_)
 refine Jf (Jd (Jv 1 #[I n.now,Sl a1 n.way.length c1] 65 (fun b1=>Jv 2 #[I 0,Sl none 0 0] 65 (fun b2=>Jb [0,0] [] (Je (Jc (Jf (Jf (Jd (Jb [4] [(10,.agg #[I n.now,Sl a1 n.way.length c1])] (Jm 11 (I (Ql n)) (JdT G [I n.now,Sl a1 n.way.length c1] n (⟨a1,c1,rfl,w1,hs1⟩)) (Jb [0] [(5,I (Ql n))] (Je (Jc (Jg [0,0] [(13,Bo (!decide (Ql n=0)))] (Jl (!decide (Ql n=0)) (fun h1=>?_) (fun h1=>?_)))))))))))))))))
 refine Jg [0,0,3,0,0] [(3,Sl none 0 0),(4,I (Ql n))] (Jn (Jj ?_))
 have hf1:Ku n=((⟨0,[]⟩:Ve),[],Ql n):=by
  unfold Ku Jcd;(simp_all;done)
 refine Jo [0,0,0] [.agg #[I 0,Sl none 0 0],Sl none 0 0,I (Ql n)] (JD [] (Jh _) ?_)
 rw [hf1]
 try dsimp only
 exact ⟨none,0,none,0,rfl,J4,(J2 Kn G),(J2 Kn G),rfl⟩
 refine Jq (Jc (Jf (Jg [0,4,0] [(18,Bo (decide (n.now=1000000000)))] (Jl (decide (n.now=1000000000)) (fun h2=>?_) (fun h2=>?_)))))
 refine Jg [0,3,0,0] [(3,Sl none 0 0),(4,I 9)] (Jn (Jj ?_))
 have hf2:Ku n=((⟨0,[]⟩:Ve),[],9):=by
  unfold Ku Jcd;(simp_all;done)
 refine Jo [0,0,0] [.agg #[I 0,Sl none 0 0],Sl none 0 0,I 9] (JD [] (Jh _) ?_)
 rw [hf2]
 try dsimp only
 exact ⟨none,0,none,0,rfl,J4,(J2 Kn G),(J2 Kn G),rfl⟩
 refine Jq (Jc (Jf (Jd (Jb [0,4,0,0] [(23,.agg #[I (Hb.wrap (n.now+1)),Sl none 0 0])] ?_))))
 have e1:Hb.wrap (n.now+1)=n.now+1:=Ho _ (by (have q_:=QY ‹_›;omega))
 refine Kv 23 (.agg #[I (n.now+1),Sl none 0 0]) (show (.agg #[I (Hb.wrap (n.now+1)),Sl none 0 0]:Value)=.agg #[I (n.now+1),Sl none 0 0] by simp only [e1]) ?_
 clear e1
 refine Jv 6 #[I 0,Sl none 0 0] 65 (fun b3=>JW [3] [] [[Sg b3 0 [I (n.now+1),Sl none 0 0]],[Sg b2 0 [I 0,Sl none 0 0]],[Sg b1 0 [I n.now,Sl a1 n.way.length c1]]] (Je (Jc (Jg [0] [(7,Sl none 0 0)] (Jf (Jf (Jd (Jb [0,6] [(25,Sl a1 n.way.length c1)] (JN 26 (JbO G a1 c1 n.way hs1 (by (have q_:=QY ‹_›;omega))) (fun v G1 L1 hl1 hp=>?_))))))))))
 obtain ⟨a2,c2,_,rfl,hr1,rfl⟩:=hp
 refine Jb [0,0] [(27,I (n.way.length:Int)),(28,I 0)] (Je (Jc (Jy (JhN (E:=Kn) 0 hr1 (by exact (hs1).fit) (fun G2 hl2 hs2=>ZA (ZA ?_))))))
 have hlm_hs2:n.way.length≤9223372036854775807:=Hf (hs2).le (hs2).max
 refine Qc (σ:=Nat×Ba×Nat×Bg×List JU×Ba×Nat×Bg×List JU×J5) (fun q_=>(J5.le G2 q_.2.2.2.2.2.2.2.2.2)∧(q_.1≤n.way.length)∧(JR Kn q_.2.2.2.2.2.2.2.2.2 q_.2.1 q_.2.2.1 q_.2.2.2.2.1 q_.2.2.2.1)∧(q_.2.2.2.2.1=(n.way.take q_.1).filter fun l=>decide (l.due=n.now+1))∧(JR Kn q_.2.2.2.2.2.2.2.2.2 q_.2.2.2.2.2.1 q_.2.2.2.2.2.2.1 q_.2.2.2.2.2.2.2.2.1 q_.2.2.2.2.2.2.2.1)∧(q_.2.2.2.2.2.2.2.2.1=(n.way.take q_.1).filter fun l=>!decide (l.due=n.now+1))) (fun q_=>[(2,Pt b2 0),(6,Pt b3 0),(7,Sl q_.2.1 q_.2.2.2.2.1.length q_.2.2.1),(26,Sl a2 n.way.length c2),(27,I (n.way.length:Int)),(28,I (q_.1:Int))]) (fun q_=>q_.2.2.2.2.2.2.2.2.2) (fun q_=>[q_.2.2.2.2.2.2.2.1,q_.2.2.2.1,[],[Sg b3 0 [I (n.now+1),Sl q_.2.2.2.2.2.1 q_.2.2.2.2.2.2.2.2.1.length q_.2.2.2.2.2.2.1]],[Sg b2 0 [I 0,Sl none 0 0]],[Sg b1 0 [I n.now,Sl a1 n.way.length c1]]]) (fun q_=>n.way.length-q_.1) (0,none,0,[],[],none,0,[],[],G2) ⟨(Jh _),(by (try dsimp only);exact Hs _),(JR.none Kn _),(by (try dsimp only);rfl),(JR.none Kn _),(by (try dsimp only);rfl)⟩ (fun q_ hs=>?_)
 obtain ⟨i,ac,cc,rc,xc,aw,cw,rw,xw,g⟩:=q_
 obtain ⟨hle,hi,hrc,hxc,hrw,hxw⟩:=hs
 dsimp only at hle hi hrc hxc hrw hxw
 dsimp only
 refine Jg [0] [(29,Bo (decide ((i:Int)<(n.way.length:Int))))] (Jf (Jl (decide ((i:Int)<(n.way.length:Int))) (fun h3=>?_) (fun h3=>?_)))
 refine Jq (Jc (Jf (Jy (Jf (Jd ?_)))))
 obtain ⟨b4,o1,rfl⟩:=RS.addr (hs2.mono hle) (k:=i) (by omega)
 obtain ⟨x1,hx1⟩:=QS (l:=n.way) (k:=i) (by omega)
 obtain ⟨_,⟨a3,c3,a4,c4,a5,c5,rfl,w2,w3,w4,w5,hs3,w6,w7,w8,w9,w10,hs4,hs5⟩,hc1⟩:=RS.get (hs2.mono hle) hx1
 refine JV (b:=b4) (off:=o1) (len:=n.way.length) (cap:=c2) (ik:=.i64) 30 51 12 i J4 (JO 31 51 (cs:=(Ky x1 a3 c3 a4 c4 a5 c5)) 0 (Q1 x1 a3 c3 a4 c4 a5 c5) hc1 (Jv 9 #[I 0,I 0,I 0,I 0,Sl none 0 0,I 0,U 0,U 0,I 0,Sr ([]),Sl none 0 0,Sl none 0 0] 51 (fun b5=>JW [3] [] [[Sg b5 0 (Ky x1 a3 c3 a4 c4 a5 c5)],rw,rc,[],[Sg b3 0 [I (n.now+1),Sl aw xw.length cw]],[Sg b2 0 [I 0,Sl none 0 0]],[Sg b1 0 [I n.now,Sl a1 n.way.length c1]]] (Je (Jc (Jg [0,2,0,10,0] [(36,Bo (decide (x1.due=n.now+1)))] (Jl (decide (x1.due=n.now+1)) (fun h4=>?_) (fun h4=>?_))))))))
 exact Jd (Jb [0,2] [(37,Sl ac xc.length cc),(38,(Q1 x1 a3 c3 a4 c4 a5 c5))] (Km 39 1 #[I x1.to_,I x1.from_,I x1.since,I x1.due,Sl a3 x1.heads.length c3,I x1.reply.head.epoch,U x1.reply.head.root,U x1.reply.head.prev,I x1.reply.head.at_,Sr x1.reply.proof.name,Sl a4 x1.reply.proof.entries.length c4,Sl a5 x1.reply.proof.sides.length c5] 51 (fun b6=>Qd (b:=b6) (cs:=(Ky x1 a3 c3 a4 c4 a5 c5)) 40 51 3 0 (E:=Kn) x1 hrc ⟨a3,c3,a4,c4,a5,c5,rfl,w2,w3,w4,w5,hs3,w6,w7,w8,w9,w10,hs4,hs5⟩ (by have q_:=QY ‹_›;have q1_:=congrArg Hn hxc;have q2_:=congrArg Hn hxw;have q3_:=Wf (fun l:JU=>decide (l.due=n.now+1)) n.way i;have q4_:=Wf (fun l:JU=>!decide (l.due=n.now+1)) n.way i;(try simp only [Kn,Hc,He,Hh,Hm,Hl] at *);omega) (by have q_:=QY ‹_›;have q1_:=congrArg Hn hxc;have q2_:=congrArg Hn hxw;have q3_:=Wf (fun l:JU=>decide (l.due=n.now+1)) n.way i;have q4_:=Wf (fun l:JU=>!decide (l.due=n.now+1)) n.way i;(try simp only [Kn,Hc,He,Hh,Hm,Hl] at *);omega) (fun a6 c6 r2 hr2=>Jb [0] [(7,Sl a6 ((xc++[x1]).length) c6)] (Je (JM (Jc (Jd (Jb [0,0] [(28,I (Hb.wrap ((i:Int)+1)))] (Kp 28 ((i:Int)+1) J4 (Je (Qy [rw,r2,[],[Sg b3 0 [I (n.now+1),Sl aw xw.length cw]],[Sg b2 0 [I 0,Sl none 0 0]],[Sg b1 0 [I n.now,Sl a1 n.way.length c1]]] (Qh (i+1,a6,c6,r2,xc++[x1],aw,cw,rw,xw,g) ⟨(Ja hle (Jh _)),J4,hr2,(by rw [hxc];exact JeY hx1 (by simp_all)),hrw,(by rw [hxw];exact JeZ hx1 (by simp_all))⟩ (by (try dsimp only);omega))))))))))))))
 exact Jd (Jb [0,10,2] [(42,Sl aw xw.length cw),(43,(Q1 x1 a3 c3 a4 c4 a5 c5))] (Km 44 1 #[I x1.to_,I x1.from_,I x1.since,I x1.due,Sl a3 x1.heads.length c3,I x1.reply.head.epoch,U x1.reply.head.root,U x1.reply.head.prev,I x1.reply.head.at_,Sr x1.reply.proof.name,Sl a4 x1.reply.proof.entries.length c4,Sl a5 x1.reply.proof.sides.length c5] 51 (fun b7=>Qd (b:=b7) (cs:=(Ky x1 a3 c3 a4 c4 a5 c5)) 45 51 2 0 (E:=Kn) x1 hrw ⟨a3,c3,a4,c4,a5,c5,rfl,w2,w3,w4,w5,hs3,w6,w7,w8,w9,w10,hs4,hs5⟩ (by have q_:=QY ‹_›;have q1_:=congrArg Hn hxc;have q2_:=congrArg Hn hxw;have q3_:=Wf (fun l:JU=>decide (l.due=n.now+1)) n.way i;have q4_:=Wf (fun l:JU=>!decide (l.due=n.now+1)) n.way i;(try simp only [Kn,Hc,He,Hh,Hm,Hl] at *);omega) (by have q_:=QY ‹_›;have q1_:=congrArg Hn hxc;have q2_:=congrArg Hn hxw;have q3_:=Wf (fun l:JU=>decide (l.due=n.now+1)) n.way i;have q4_:=Wf (fun l:JU=>!decide (l.due=n.now+1)) n.way i;(try simp only [Kn,Hc,He,Hh,Hm,Hl] at *);omega) (fun a7 c7 r3 hr3=>JW [0,13] [] [[Sg b7 0 (Ky x1 a3 c3 a4 c4 a5 c5)],[Sg b5 0 (Ky x1 a3 c3 a4 c4 a5 c5)],r3,rc,[],[Sg b3 0 [I (n.now+1),Sl a7 ((xw++[x1]).length) c7]],[Sg b2 0 [I 0,Sl none 0 0]],[Sg b1 0 [I n.now,Sl a1 n.way.length c1]]] (Je (JM (Jc (Jd (Jb [0,0] [(28,I (Hb.wrap ((i:Int)+1)))] (Kp 28 ((i:Int)+1) J4 (Je (Qy [r3,rc,[],[Sg b3 0 [I (n.now+1),Sl a7 ((xw++[x1]).length) c7]],[Sg b2 0 [I 0,Sl none 0 0]],[Sg b1 0 [I n.now,Sl a1 n.way.length c1]]] (Qh (i+1,ac,cc,rc,xc,a7,c7,r3,xw++[x1],g) ⟨(Ja hle (Jh _)),J4,hrc,(by rw [hxc];exact JeZ hx1 (by simp_all)),hr3,(by rw [hxw];exact JeY hx1 (by simp_all))⟩ (by (try dsimp only);omega))))))))))))))
 refine KX (J1 (Kd (JS (Jc (QF [8,0,11,0,0] [(3,Sl ac xc.length cc),(4,I 0)] [rw,rc,[],[Sg b3 0 [I (n.now+1),Sl aw xw.length cw]],[Sg b2 0 [I (n.now+1),Sl aw xw.length cw]],[Sg b1 0 [I n.now,Sl a1 n.way.length c1]]] (Jn (Wy (E:=Kn) 0 hrw (by have q_:=QY ‹_›;have q1_:=congrArg Hn hxc;have q2_:=congrArg Hn hxw;have q3_:=Wf (fun l:JU=>decide (l.due=n.now+1)) n.way i;have q4_:=Wf (fun l:JU=>!decide (l.due=n.now+1)) n.way i;(try simp only [Kn,Hc,He,Hh,Hm,Hl] at *);omega) (fun G3 hl3 hs6=>Wy (E:=Kn) 1 (hrc.mono hl3) (by have q_:=QY ‹_›;have q1_:=congrArg Hn hxc;have q2_:=congrArg Hn hxw;have q3_:=Wf (fun l:JU=>decide (l.due=n.now+1)) n.way i;have q4_:=Wf (fun l:JU=>!decide (l.due=n.now+1)) n.way i;(try simp only [Kn,Hc,He,Hh,Hm,Hl] at *);omega) (fun G4 hl4 hs7=>?_)))))))))
 have hf3:Ku n=((⟨n.now+1,xw⟩:Ve),xc,0):=by
  unfold Ku Jcd;(rw [if_neg (by omega),if_neg (by omega),hxw,hxc,Hk (by omega)])
 refine Jo [4,0,0] [.agg #[I (n.now+1),Sl aw xw.length cw],Sl ac xc.length cc,I 0] (JD [] (Ja (Ja (Ja (Ja hl1 hl2) hle) hl3) hl4) ?_)
 rw [hf3]
 try dsimp only
 exact ⟨aw,cw,ac,cc,rfl,(by (have q_:=QY ‹_›;omega)),(hs6.mono hl4),hs7,rfl⟩
structure JI where
 town:Wl
 reach:Int
 fates:List (List Int)
 events:List Yj
deriving DecidableEq
def Zi (t:JI) (k:Int):Bool:=decide (k ≥ 0) && decide (k<t.town.owners.length)
abbrev Q8 (t:JI) (kind who n a:Int):JI:=⟨t.town,t.reach,t.fates,t.events++[⟨kind,who,n,a⟩]⟩
def JlP (t:JI):List Int:=if t.fates.length > 0 then t.fates[0]?.getD [] else [1]
def Wo (t:JI) (l:JU):JI:=⟨⟨t.town.clerk,t.town.owners,t.town.polls,if (Kz t.town.net l (JlP t)).2=0 then (Kz t.town.net l (JlP t)).1 else t.town.net⟩,t.reach,t.fates.drop 1,t.events⟩
theorem JoL {t:JI} (h:¬ 0<t.fates.length) (l:JU):Wo t l=⟨⟨t.town.clerk,t.town.owners,t.town.polls,if (Kz t.town.net l [1]).2=0 then (Kz t.town.net l [1]).1 else t.town.net⟩,t.reach,t.fates,t.events⟩:=by
 have h0:t.fates=[]:=List.eq_nil_of_length_eq_zero (by omega)
 unfold Wo JlP
 rw [h0];rfl
theorem JoM {t:JI} (h:0<t.fates.length) {f:List Int} (hf:t.fates[0]? = some f) (l:JU):Wo t l=⟨⟨t.town.clerk,t.town.owners,t.town.polls,if (Kz t.town.net l f).2=0 then (Kz t.town.net l f).1 else t.town.net⟩,t.reach,t.fates.drop 1,t.events⟩:=by
 unfold Wo JlP
 rw [if_pos h,hf];rfl
def Js (t:JI) (k:Int):Qp:=t.town.owners[k.toNat]?.getD VX
def QB (t:JI) (k:Int):We:=t.town.polls[k.toNat]?.getD VU
theorem Y3 {t:JI} {n:Nat} (h:n<t.town.owners.length):t.town.owners[n]? = some (Js t (n:Int)):=by unfold Js;rw [Int.toNat_natCast,Hp h];rfl
theorem Jgi {t:JI} {n:Nat} (h:n<t.town.polls.length):t.town.polls[n]? = some (QB t (n:Int)):=by unfold QB;rw [Int.toNat_natCast,Hp h];rfl
def Wk (t:JI) (d:K6):JI :=
 if Zi t d.who=false then t
 else if ¬ (JQ (Js t d.who) d.value).2.2=0∨Yl (JQ (Js t d.who) d.value).1.key (JQ (Js t d.who) d.value).2.1=false then t
 else if ¬ (KE t.town.clerk (JQ (Js t d.who) d.value).2.1).2.2=0 then t
 else ⟨⟨(KE t.town.clerk (JQ (Js t d.who) d.value).2.1).1,t.town.owners.set d.who.toNat (JQ (Js t d.who) d.value).1,t.town.polls,t.town.net⟩,t.reach,t.fates,t.events++[⟨1,d.who,(Js t d.who).wanted.length,(KE t.town.clerk (JQ (Js t d.who) d.value).2.1).2.1⟩]⟩
theorem tWant0 {t:JI} {d:K6} (h:Zi t d.who=false):Wk t d=t:=by unfold Wk;rw [if_pos h]
theorem tWant1 {t:JI} {d:K6} {k:Int} (hk:d.who=k) (h0:Zi t d.who=true) (h:¬ (JQ (Js t k) d.value).2.2=0):Wk t d=t:=by
 subst hk;unfold Wk;rw [if_neg (by rw [h0];simp),if_pos (.inl h)]
theorem tWant2 {t:JI} {d:K6} {k:Int} (hk:d.who=k) (h0:Zi t d.who=true) (h:Yl (JQ (Js t k) d.value).1.key (JQ (Js t k) d.value).2.1=false):Wk t d=t:=by
 subst hk;unfold Wk;rw [if_neg (by rw [h0];simp),if_pos (.inr h)]
theorem tWant3 {t:JI} {d:K6} {k:Int} (hk:d.who=k) (h0:Zi t d.who=true) (h:¬ (KE t.town.clerk (JQ (Js t k) d.value).2.1).2.2=0):Wk t d=t:=by
 subst hk;unfold Wk;rw [if_neg (by rw [h0];simp)]
 split
 · rfl
 · rfl
theorem tWant4 {t:JI} {d:K6} {k:Int} {n:Nat} (hk:d.who=k) (hn:k=(n:Int)) (h0:Zi t d.who=true) (h1:(JQ (Js t k) d.value).2.2=0) (h2:Yl (JQ (Js t k) d.value).1.key (JQ (Js t k) d.value).2.1=true) (h3:(KE t.town.clerk (JQ (Js t k) d.value).2.1).2.2=0) :
  Wk t d=Q8 ⟨⟨(KE t.town.clerk (JQ (Js t k) d.value).2.1).1,t.town.owners.set n (JQ (Js t k) d.value).1,t.town.polls,t.town.net⟩,t.reach,t.fates,t.events⟩ 1 k (Js t k).wanted.length (KE t.town.clerk (JQ (Js t k) d.value).2.1).2.1:=by
 subst hk;unfold Wk
 rw [if_neg (by rw [h0];simp),if_neg (by rw [h2];simp [h1]),if_neg (by simpa using h3)]
 unfold Q8;rw [show d.who.toNat=n by omega]
def Yd (t:JI) (l:JU):JI:=⟨⟨t.town.clerk,t.town.owners.set l.to_.toNat (JC (Js t l.to_) l.heads l.reply).1,if (JC (Js t l.to_) l.heads l.reply).2.1=0∨(JC (Js t l.to_) l.heads l.reply).2.1=1 then t.town.polls.set l.to_.toNat (Wa (QB t l.to_) t.town.clerk.now).1 else t.town.polls,t.town.net⟩,t.reach,t.fates,t.events++[⟨2,l.to_,(JC (Js t l.to_) l.heads l.reply).2.1,(JC (Js t l.to_) l.heads l.reply).1.head.epoch⟩]⟩
def minI (a b:Int):Int:=if b<a then b else a
def maxI (a b:Int):Int:=if b > a then b else a
def W1 (t:JI):Int:=(t.town.clerk.heads.length:Int)-1
def WS (t:JI) (l:JU):Int:=maxI (minI l.since (W1 t)) 0
def Vy (t:JI) (l:JU):Int:=minI (WS t l+t.reach-1) (W1 t)
def Qn (t:JI) (l:JU):JI:=if Zi t l.from_=false then t else Wo t ⟨l.from_,0,0,0,(ZS t.town.clerk (WS t l) (Vy t l)).1,(JL t.town.clerk (Js t l.from_).name (Vy t l)).1⟩
def Ja4 (t:JI) (k:Int):JI:=Wo ⟨⟨t.town.clerk,t.town.owners,t.town.polls.set k.toNat (KQ (QB t k) t.town.clerk.now).1,t.town.net⟩,t.reach,t.fates,t.events⟩ ⟨-1,k,(Js t k).head.epoch+1,0,[],Jes⟩
def Zx (t:JI) (k:Int):JI :=
 if ¬ (KQ (QB t k) t.town.clerk.now).2=0 then t
 else if Jbs (KQ (QB t k) t.town.clerk.now).1=true∧Jbs (QB t k)=false then Q8 (Ja4 t k) 3 k 0 t.town.clerk.now else Ja4 t k
def Vt (t:JI):JI:=⟨⟨(KV t.town.clerk).1,t.town.owners,t.town.polls,(Ku t.town.net).1⟩,t.reach,t.fates,t.events⟩
def Yg (t:JI) (l:JU):JI:=if l.to_<0 then Qn t l else Yd t l
def Zh (t:JI) (l:List JU):JI:=l.foldl Yg t
def Jce (t:JI) (n:Nat):JI:=(List.range n).foldl (fun t (k:Nat)=>Zx t (k:Int)) t
def WJ (t:JI):JI:=if (KV t.town.clerk).1.now=t.town.clerk.now then t else Jce (Zh (Vt t) (Ku t.town.net).2.1) (Zh (Vt t) (Ku t.town.net).2.1).town.owners.length
def JjD (l:JU) (k:Int):JU:=⟨k,l.from_,l.since,l.due,l.heads,l.reply⟩
def Jgj (t:JI) (d:K6):JI:=if Zi t d.who=false then t else ⟨⟨t.town.clerk,t.town.owners,t.town.polls,if (Kz t.town.net (JjD d.letter d.who) [1]).2=0 then (Kz t.town.net (JjD d.letter d.who) [1]).1 else t.town.net⟩,t.reach,t.fates,t.events⟩
def Va (t:JI) (d:K6):JI:=if d.kind=1 then Wk t d else if d.kind=2 then ⟨t.town,t.reach,t.fates++[d.fates],t.events⟩ else if d.kind=3 then Jgj t d else if d.kind=4 then WJ t else t
structure Yx (t u:JI) (k:Nat):Prop where
 ev:∃ m,u.events=t.events++m∧m.length≤k
 own:u.town.owners.length=t.town.owners.length
 polls:u.town.polls.length=t.town.polls.length
 reach:u.reach=t.reach
theorem Yx.refl (t:JI) (k:Nat):Yx t t k:=⟨⟨[],by simp,by simp⟩,rfl,rfl,rfl⟩
theorem Yx.trans {t u v:JI} {j k:Nat} (h:Yx t u j) (h2:Yx u v k):Yx t v (j+k):=by
 obtain ⟨m,e,l⟩:=h.ev;obtain ⟨n,e2,l2⟩:=h2.ev
 exact ⟨⟨m++n,by rw [e2,e,Hy],by simp;omega⟩,h2.own.trans h.own,h2.polls.trans h.polls,h2.reach.trans h.reach⟩
theorem Yx.mono {t u:JI} {j k:Nat} (h:Yx t u j) (hk:j≤k):Yx t u k:=by
 obtain ⟨m,e,l⟩:=h.ev
 exact ⟨⟨m,e,Hf l hk⟩,h.own,h.polls,h.reach⟩
theorem Yx.len {t u:JI} {k:Nat} (h:Yx t u k):u.events.length≤t.events.length+k∧t.events.length≤u.events.length:=by
 obtain ⟨m,e,l⟩:=h.ev;rw [e];simp;omega
theorem g_send (t:JI) (l:JU):Yx t (Wo t l) 0:=⟨⟨[],by simp [Wo],by simp⟩,rfl,rfl,rfl⟩
theorem g_want (t:JI) (d:K6):Yx t (Wk t d) 1:=by
 unfold Wk
 split
 · exact Yx.refl t 1
 split
 · exact Yx.refl t 1
 split
 · exact Yx.refl t 1
 · exact ⟨⟨_,rfl,by simp⟩,by simp,rfl,rfl⟩
theorem JoN (t:JI) (l:JU):Yx t (Qn t l) 0:=by
 unfold Qn
 split
 · exact Yx.refl t 0
 · exact g_send t _
theorem g_see (t:JI) (l:JU):Yx t (Yd t l) 1:=by
 refine ⟨⟨_,rfl,by simp⟩,by simp [Yd],?_,rfl⟩
 unfold Yd;simp only
 split <;> simp
theorem JoO (t:JI) (k:Int):Yx t (Ja4 t k) 0:=⟨⟨[],by simp [Ja4,Wo],by simp⟩,rfl,by simp [Ja4,Wo],rfl⟩
theorem g_ask (t:JI) (k:Int):Yx t (Zx t k) 1:=by
 unfold Zx
 split
 · exact Yx.refl t 1
 split
 · refine (JoO t k).trans (k:=1) ⟨⟨_,rfl,by simp⟩,rfl,rfl,rfl⟩
 · exact (JoO t k).mono (by omega)
theorem JjE (t:JI) (l:JU):Yx t (Yg t l) 1:=by
 unfold Yg
 split
 · exact (JoN t l).mono (by omega)
 · exact g_see t l
theorem Jet:∀ (l:List JU) (t:JI),Yx t (Zh t l) l.length
 | [],t=>Yx.refl t 0
 | x::l,t=>by
  have:=(JjE t x).trans (Jet l (Yg t x))
  exact this.mono (by simp;omega)
theorem Jg0 (t:JI) (l:List JU) (x:JU):Zh t (l++[x])=Yg (Zh t l) x:=by simp [Zh,Hz]
theorem JcR {t:JI} {l:List JU} {i:Nat} {x:JU} (h:l[i]? = some x):Yg (Zh t (l.take i)) x=Zh t (l.take (i+1)):=by
 rw [Hj,h,← Jg0];rfl
theorem JaS (t:JI) (n:Nat):Zx (Jce t n) (n:Int)=Jce t (n+1):=by simp [Jce,List.range_succ,Hz]
theorem JkU (t:JI):∀ n,Yx t (Jce t n) n
 | 0=>Yx.refl t 0
 | n+1=>by rw [← JaS];exact (JkU t n).trans (g_ask _ _)
theorem JjF (n:Ve):(Ku n).2.1.length≤60:=by
 unfold Ku
 split
 · simp
 split
 · simp
 ·
  rename_i h1 h2
  have:=QY (Hd.1 h1)
  have h3:=HB (fun l:JU=>decide (l.due=n.now+1)) n.way
  simp only;omega
theorem g_tick {t:JI} (h:t.town.owners.length≤4):Yx t (WJ t) 64:=by
 unfold WJ
 split
 · exact Yx.refl t 64
 ·
  have h1:Yx t (Vt t) 0:=⟨⟨[],by simp [Vt],by simp⟩,rfl,rfl,rfl⟩
  have h2:=h1.trans (Jet (Ku t.town.net).2.1 (Vt t))
  have h3:=h2.trans (JkU (Zh (Vt t) (Ku t.town.net).2.1) (Zh (Vt t) (Ku t.town.net).2.1).town.owners.length)
  have h4:=JjF t.town.net
  exact h3.mono (by rw [h2.own];omega)
theorem g_say (t:JI) (d:K6):Yx t (Jgj t d) 0:=by
 unfold Jgj
 split
 · exact Yx.refl t 0
 · exact ⟨⟨[],by simp,by simp⟩,rfl,rfl,rfl⟩
theorem g_do {t:JI} (h:t.town.owners.length≤4) (d:K6):Yx t (Va t d) 64:=by
 unfold Va
 split
 · exact (g_want t d).mono (by omega)
 split
 · exact ⟨⟨[],by simp,by simp⟩,rfl,rfl,rfl⟩
 split
 · exact (g_say t d).mono (by omega)
 split
 · exact g_tick h
 · exact Yx.refl t 64
def WW (t:JI):Prop:=∀ l∈t.town.net.way,l.to_<t.town.owners.length
theorem Je1 {n:Ve} {l x:JU} {f:List Int} (hk:(Kz n l f).2=0) (h:x∈(Kz n l f).1.way):x∈n.way∨x.to_=l.to_:=by
 unfold Kz at hk h
 split at h
 · simp [Jcd] at h
 split at h
 · simp [Jcd] at h
 split at h
 · simp [Jcd] at h
 ·
  simp only [Hi,List.mem_map] at h
  rcases h with h | ⟨k,_,rfl⟩
  · exact .inl h
  · exact .inr rfl
theorem JjG {n:Ve} {x:JU} (h:x∈(Ku n).1.way):x∈n.way:=by
 unfold Ku at h
 split at h
 · simp [Jcd] at h
 split at h
 · simp [Jcd] at h
 · exact (HL.1 h).1
theorem Jgk {n:Ve} {x:JU} (h:x∈(Ku n).2.1):x∈n.way:=by
 unfold Ku at h
 split at h
 · simp at h
 split at h
 · simp at h
 · exact (HL.1 h).1
theorem JoP {t:JI} {l:JU} (h:WW t) (hl:l.to_<t.town.owners.length):WW (Wo t l):=by
 intro x hx
 unfold Wo at hx ⊢
 simp only at hx ⊢
 split at hx
 ·
  rename_i hk
  rcases Je1 hk hx with h2 | h2
  · exact h x h2
  · omega
 · exact h x hx
theorem JaT {t:JI} {k:Int}:Zi t k=true ↔ 0≤k∧k<t.town.owners.length:=by unfold Zi;simp
theorem w_want {t:JI} (h:WW t) (d:K6):WW (Wk t d):=by
 unfold Wk
 split
 · exact h
 split
 · exact h
 split
 · exact h
 · intro x hx;have:=h x hx;simpa using this
theorem JoQ {t:JI} (h:WW t) (l:JU):WW (Qn t l):=by
 unfold Qn
 split
 · exact h
 ·
  rename_i h1
  exact JoP h (JaT.1 (by simpa using h1)).2
theorem w_see {t:JI} (h:WW t) (l:JU):WW (Yd t l):=by
 intro x hx;have:=h x hx;simpa [Yd] using this
theorem JoR {t:JI} (h:WW t) (k:Int):WW (Ja4 t k):=by
 unfold Ja4
 exact JoP (t:=⟨⟨t.town.clerk,t.town.owners,t.town.polls.set k.toNat (KQ (QB t k) t.town.clerk.now).1,t.town.net⟩,t.reach,t.fates,t.events⟩) h (by simp only;omega)
theorem w_ask {t:JI} (h:WW t) (k:Int):WW (Zx t k):=by
 unfold Zx
 split
 · exact h
 split
 · exact JoR h k
 · exact JoR h k
theorem JoS {t:JI} (h:WW t) (l:JU):WW (Yg t l):=by
 unfold Yg
 split
 · exact JoQ h l
 · exact w_see h l
theorem Jeu:∀ (l:List JU) {t:JI},WW t→WW (Zh t l)
 | [],_,h=>h
 | x::l,t,h=>Jeu l (JoS h x)
theorem JkV {t:JI} (h:WW t):∀ n,WW (Jce t n)
 | 0=>h
 | n+1=>by rw [← JaS];exact w_ask (JkV h n) _
theorem JlQ {t:JI} (h:WW t):WW (Vt t):=fun x hx=>h x (JjG hx)
theorem w_tick {t:JI} (h:WW t):WW (WJ t):=by
 unfold WJ
 split
 · exact h
 · exact JkV (Jeu _ (JlQ h)) _
theorem w_say {t:JI} (h:WW t) (d:K6):WW (Jgj t d):=by
 unfold Jgj
 split
 · exact h
 ·
  rename_i h1
  have h2:=(JaT.1 (by simpa using h1:Zi t d.who=true)).2
  intro x hx
  simp only at hx ⊢
  split at hx
  ·
   rename_i hk
   rcases Je1 hk hx with h3 | h3
   · exact h x h3
   · rw [h3];exact h2
  · exact h x hx
theorem w_do {t:JI} (h:WW t) (d:K6):WW (Va t d):=by
 unfold Va
 split
 · exact w_want h d
 split
 · exact h
 split
 · exact w_say h d
 split
 · exact w_tick h
 · exact h
def Jbt (t:JI) (l:List K6):JI:=l.foldl Va t
theorem Jm3 {t:JI} {l:List K6} {i:Nat} {d:K6} (h:l[i]? = some d):Va (Jbt t (l.take i)) d=Jbt t (l.take (i+1)):=by
 unfold Jbt;rw [Hj,h];simp [Hz]
theorem JoT:∀ (l:List K6) {t:JI},t.town.owners.length≤4→Yx t (Jbt t l) (64*l.length)
 | [],t,_=>Yx.refl t 0
 | d::l,t,h=>by
  have h1:=g_do h d
  have h2:=JoT l (t:=Va t d) (by rw [h1.own];exact h)
  exact (h1.trans h2).mono (by simp;omega)
def nmE:Bs→Bs→Int
 | _,[]=>0
 | p,n::l=>if KS n=false∨(p.any fun x=>decide (n=x))=true then 3 else nmE (p++[n]) l
def Z8 (s:Kx) (h:JX):List Qp:=(s.names.zip s.keys).map fun x=>(Kk x.1 x.2 h).1
def QQ (s:Kx):Int:=if ¬ (J7 s.most s.batch s.every).2=0 then (J7 s.most s.batch s.every).2 else if s.names.length > 4 then 2 else if ¬ s.keys.length=s.names.length then 3 else if ¬ nmE [] s.names=0 then nmE [] s.names else if ¬ (KR s.least s.top s.lost).2=0 then (KR s.least s.top s.lost).2 else if s.reach<1∨s.reach > 40 then 4 else 0
def QH (s:Kx):JI:=⟨⟨(J7 s.most s.batch s.every).1,Z8 s (W2 (J7 s.most s.batch s.every).1.heads),HE (Z8 s (W2 (J7 s.most s.batch s.every).1.heads)).length (KR s.least s.top s.lost).1,⟨0,[]⟩⟩,s.reach,[],[]⟩
def JbW (s:Kx) (l:List K6):Int:=if ¬ QQ s=0 then QQ s else if l.length > 200 then 2 else 0
def JlR:Wl:=⟨Yc,[],[],⟨0,[]⟩⟩
def Jt (s:Kx) (l:List K6):Wl×List Yj×Int:=if ¬ JbW s l=0 then (JlR,[],JbW s l) else ((Jbt (QH s) l).town,(Jbt (QH s) l).events,0)
theorem Jaz {s:Kx} (h:QQ s=0):s.names.length≤4∧s.keys.length=s.names.length∧nmE [] s.names=0∧(J7 s.most s.batch s.every).2=0∧(KR s.least s.top s.lost).2=0∧1≤s.reach∧s.reach≤40:=by
 unfold QQ at h
 split at h
 · contradiction
 split at h
 · cases h
 split at h
 · cases h
 split at h
 · contradiction
 split at h
 · contradiction
 split at h
 · cases h
 ·
  rename_i h1 h2 h3 h4 h5 h6
  exact ⟨by omega,Hd.1 h3,Hd.1 h4,Hd.1 h1,Hd.1 h5,by omega,by omega⟩
theorem JdU {s:Kx} (h:QQ s=0) (x:JX):(Z8 s x).length=s.names.length:=by
 have:=Jaz h
 unfold Z8;rw [Hl,List.length_zip];omega
theorem Jik {s:Kx} {l:List K6} (h:(Jt s l).2.2=0):QQ s=0∧l.length≤200∧Jt s l=((Jbt (QH s) l).town,(Jbt (QH s) l).events,0):=by
 unfold Jt at h ⊢
 split at h
 · contradiction
 ·
  rename_i h1
  rw [if_neg h1]
  have h2:=Hd.1 h1
  unfold JbW at h2
  split at h2
  · contradiction
  split at h2
  · cases h2
  · rename_i a b;exact ⟨Hd.1 a,by omega,rfl⟩
theorem JoU {s:Kx} {l:List K6} (h:¬ (Jt s l).2.2=0):Jt s l=(JlR,[],JbW s l):=by
 unfold Jt at h ⊢
 split
 · rfl
 · rename_i h1;rw [if_neg h1] at h;exact absurd rfl h
structure ZV (s:Kx) (t:JI):Prop where
 clerk:Zr t.town.clerk
 net:Ql t.town.net=0
 now:t.town.net.now=t.town.clerk.now
 own:∀ (i:Nat) o,t.town.owners[i]? = some o→Kg o=0∧s.names[i]? = some o.name∧s.keys[i]? = some o.key
 poll:∀ (i:Nat) p,t.town.polls[i]? = some p→KL p=0
theorem JlS {n:Ve} (h:Ql n=0):∀ l∈n.way,n.now<l.due:=by
 unfold Ql at h
 split at h
 · cases h
 split at h
 · cases h
 split at h
 · cases h
 ·
  rename_i h3
  intro l hl
  have:¬ Jfc l n=true:=fun e=>h3 (Hu.2 ⟨l,hl,e⟩)
  unfold Jfc at this
  simp at this;omega
theorem JkW {n:Ve} (h1:0≤n.now) (h2:n.now≤1000000000) (h3:n.way.length≤60) (h4:∀ l∈n.way,n.now<l.due):Ql n=0:=by
 unfold Ql
 rw [if_neg (by omega),if_neg (by omega),if_neg]
 rw [Hu]
 rintro ⟨l,hl,e⟩
 have:=h4 l hl
 unfold Jfc at e
 simp at e;omega
theorem V2 {n:Ve} {l:JU} {f:List Int} (h:(Kz n l f).2=0):Ql (Kz n l f).1=0∧(Kz n l f).1.now=n.now:=by
 unfold Kz at h ⊢
 split at h
 · contradiction
 split at h
 · cases h
 split at h
 · cases h
 ·
  rename_i h1 h2 h3
  rw [if_neg h1,if_neg h2,if_neg h3]
  have hc:=QY (Hd.1 h1)
  have ha:=JlS (Hd.1 h1)
  refine ⟨JkW (by simp only;omega) (by simp only;omega) (by simp only [Hc,Hl];omega) (fun x hx=>?_),rfl⟩
  simp only [Hi,List.mem_map] at hx
  rcases hx with hx | ⟨k,hk,rfl⟩
  · exact ha x hx
  ·
   have:¬ VM k=true:=fun e=>h2 (Hu.2 ⟨k,hk,e⟩)
   unfold VM at this
   simp at this
   show n.now<n.now+k
   omega
theorem JcS {n:Ve} (h:Ql n=0) (hn:¬ n.now=1000000000):Ql (Ku n).1=0∧(Ku n).1.now=n.now+1:=by
 have hc:=QY h
 have ha:=JlS h
 unfold Ku
 rw [if_neg (by omega),if_neg hn]
 refine ⟨JkW (by simp only;omega) (by simp only;omega) ?_ (fun x hx=>?_),rfl⟩
 ·
  have:=HB (fun l:JU=>!decide (l.due=n.now+1)) n.way
  simp only;omega
 ·
  have hx':=HL.1 hx
  have h1:=ha x hx'.1
  have h2:¬ x.due=n.now+1:=by simpa using hx'.2
  simp only;omega
theorem Jfx {α:Type} {l:List α} {k i:Nat} {v x:α} (h:(l.set k v)[i]? = some x):(k=i∧x=v∧k<l.length)∨(k ≠ i∧l[i]? = some x):=by
 by_cases e:k=i
 ·
  subst e
  have hl:=(Hq.1 h).1
  rw [Hw] at hl
  rw [HK hl] at h
  exact .inl ⟨rfl,(HN.inj h).symm,hl⟩
 · rw [List.getElem?_set_ne e] at h;exact .inr ⟨e,h⟩
theorem Je2 {t:JI} {k:Int} (h:k.toNat<t.town.owners.length):t.town.owners[k.toNat]? = some (Js t k):=by unfold Js;rw [Hp h];rfl
theorem JkX {t:JI} {k:Int} (h:k.toNat<t.town.polls.length):t.town.polls[k.toNat]? = some (QB t k):=by unfold QB;rw [Hp h];rfl
theorem JoV {s:Kx} {t:JI} (h:ZV s t) (l:JU):ZV s (Wo t l):=by
 refine ⟨h.clerk,?_,?_,h.own,h.poll⟩ <;> (unfold Wo;simp only;split)
 · rename_i hk;exact (V2 hk).1
 · exact h.net
 · rename_i hk;rw [(V2 hk).2];exact h.now
 · exact h.now
theorem i_want {s:Kx} {t:JI} (h:ZV s t) (d:K6):ZV s (Wk t d):=by
 unfold Wk
 split
 · exact h
 rename_i h0
 split
 · exact h
 split
 · exact h
 ·
  rename_i h1 h2
  simp only [not_or,Hx] at h1
  have hw:=Hd.1 h1.1
  have ha:=Hd.1 h2
  have hd:=JaT.1 (by simpa using h0:Zi t d.who=true)
  obtain ⟨w1,w2,w3,w4,w5⟩:=Jib hw
  have hnow:(KE t.town.clerk (JQ (Js t d.who) d.value).2.1).1.now=t.town.clerk.now:=by rw [(JeU ha).2.2.2.2]
  refine ⟨Jge ha,h.net,by simp only;rw [hnow];exact h.now,fun i o ho=>?_,h.poll⟩
  rcases Jfx ho with ⟨rfl,rfl,_⟩ | ⟨_,ho⟩
  ·
   obtain ⟨q1,q2,q3⟩:=h.own _ _ (Je2 (k:=d.who) (by omega))
   refine ⟨w5.1,?_,?_⟩ <;> rw [w4]
   · exact q2
   · exact q3
  · exact h.own i o ho
theorem Jm4 {o:Qp} {l:List JX} {r:Q5} (h:Kg o=0):Kg (JC o l r).1=0∧(JC o l r).1.name=o.name∧(JC o l r).1.key=o.key∧(JC o l r).1.wanted=o.wanted:=by
 by_cases hv:(JZ o l r).1=0
 ·
  have e:JC o l r=(⟨o.name,o.key,r.head,o.wanted,(JZ o l r).2⟩,0,0):=by unfold JC;rw [if_neg (by omega),if_pos hv]
  have h1:(JC o l r).2.2=0:=by rw [e]
  have h2:(JC o l r).2.1=0:=by rw [e]
  exact ⟨(JoA h1 h2).2.2.2.2.1,by rw [e],by rw [e],by rw [e]⟩
 ·
  have e:JC o l r=(o,(JZ o l r).1,0):=by unfold JC;rw [if_neg (by omega),if_neg hv]
  rw [e];exact ⟨h,rfl,rfl,rfl⟩
theorem Je3 {p:We} {now:Int} (h:KL p=0) (h1:0≤now) (h2:now≤1000000000):KL (Wa p now).1=0:=by
 have hp:=(ZL p).1 h
 have ha:KP p now=0:=(Jc9 p now).2 ⟨hp,h1,h2⟩
 unfold Wa
 rw [if_neg (by omega)]
 simp only
 rw [ZL]
 unfold Vs at hp ⊢
 unfold K4
 simp only
 (repeat' split) <;> omega
theorem i_see {s:Kx} {t:JI} (h:ZV s t) {l:JU} (h0:0≤l.to_) (h1:l.to_<t.town.owners.length):ZV s (Yd t l):=by
 refine ⟨h.clerk,h.net,h.now,fun i o ho=>?_,fun i p hp=>?_⟩
 ·
  rcases Jfx ho with ⟨rfl,rfl,_⟩ | ⟨_,ho⟩
  ·
   obtain ⟨q1,q2,q3⟩:=h.own _ _ (Je2 (k:=l.to_) (by omega))
   obtain ⟨k1,k2,k3,_⟩:=Jm4 (l:=l.heads) (r:=l.reply) q1
   exact ⟨k1,by rw [k2];exact q2,by rw [k3];exact q3⟩
  · exact h.own i o ho
 ·
  unfold Yd at hp
  simp only at hp
  split at hp
  ·
   rcases Jfx hp with ⟨rfl,rfl,hl⟩ | ⟨_,hp⟩
   · exact Je3 (h.poll _ _ (JkX hl)) h.clerk.now.1 h.clerk.now.2
   · exact h.poll i p hp
  · exact h.poll i p hp
theorem JoW {s:Kx} {t:JI} (h:ZV s t) (l:JU):ZV s (Qn t l):=by
 unfold Qn
 split
 · exact h
 · exact JoV h _
theorem JoX {s:Kx} {t:JI} (h:ZV s t) {l:JU} (h1:l.to_<t.town.owners.length):ZV s (Yg t l):=by
 unfold Yg
 split
 · exact JoW h l
 · exact i_see h (by omega) h1
theorem Jev {s:Kx}:∀ (l:List JU) {t:JI},ZV s t→(∀ x∈l,x.to_<t.town.owners.length)→ZV s (Zh t l)
 | [],_,h,_=>h
 | x::l,t,h,hl=>Jev l (JoX h (hl x (by simp))) (fun y hy=>by rw [(JjE t x).own];exact hl y (by simp [hy]))
theorem i_sent {s:Kx} {t:JI} (h:ZV s t) {k:Int} (hk:(KQ (QB t k) t.town.clerk.now).2=0):ZV s (Ja4 t k):=by
 unfold Ja4
 refine JoV (t:=⟨⟨t.town.clerk,t.town.owners,t.town.polls.set k.toNat (KQ (QB t k) t.town.clerk.now).1,t.town.net⟩,t.reach,t.fates,t.events⟩) ⟨h.clerk,h.net,h.now,h.own,fun i p hp=>?_⟩ _
 rcases Jfx hp with ⟨rfl,rfl,_⟩ | ⟨_,hp⟩
 · have:=JeX hk;omega
 · exact h.poll i p hp
theorem i_ask {s:Kx} {t:JI} (h:ZV s t) (k:Int):ZV s (Zx t k):=by
 unfold Zx
 split
 · exact h
 rename_i h1
 have h2:=i_sent h (Hd.1 h1)
 split
 · exact ⟨h2.clerk,h2.net,h2.now,h2.own,h2.poll⟩
 · exact h2
theorem JkY {s:Kx} {t:JI} (h:ZV s t):∀ n,ZV s (Jce t n)
 | 0=>h
 | n+1=>by rw [← JaS];exact i_ask (JkY h n) _
theorem i_tick {s:Kx} {t:JI} (h:ZV s t) (hw:WW t):ZV s (WJ t):=by
 unfold WJ
 split
 · exact h
 ·
  rename_i h1
  obtain ⟨t0,tk⟩:=JdQ h.clerk
  have hn:Zs t.town.clerk=false∧(KV t.town.clerk).1.now=t.town.clerk.now+1:=by
   rcases JcN h.clerk with q | q
   · exact absurd q.1 h1
   · exact q
  have hne:¬ t.town.net.now=1000000000:=by
   rw [h.now]
   have:=hn.1;unfold Zs at this
   simp only [HC,decide_eq_false_iff_not] at this
   exact this.2
  obtain ⟨n1,n2⟩:=JcS h.net hne
  have hT:ZV s (Vt t):=⟨tk.ok,n1,by show (Ku t.town.net).1.now=(KV t.town.clerk).1.now;rw [n2,hn.2,h.now],h.own,h.poll⟩
  exact JkY (Jev _ hT (fun x hx=>hw x (Jgk hx))) _
theorem i_do {s:Kx} {t:JI} (h:ZV s t) (hw:WW t) (d:K6):ZV s (Va t d):=by
 unfold Va
 split
 · exact i_want h d
 split
 · exact ⟨h.clerk,h.net,h.now,h.own,h.poll⟩
 split
 ·
  unfold Jgj
  split
  · exact h
  ·
   refine ⟨h.clerk,?_,?_,h.own,h.poll⟩ <;> (simp only;split)
   · rename_i hk;exact (V2 hk).1
   · exact h.net
   · rename_i hk;rw [(V2 hk).2];exact h.now
   · exact h.now
 split
 · exact i_tick h hw
 · exact h
theorem i_dos {s:Kx}:∀ (l:List K6) {t:JI},ZV s t→WW t→ZV s (Jbt t l)
 | [],_,h,_=>h
 | d::l,_,h,hw=>i_dos l (i_do h hw d) (w_do hw d)
theorem Jcf {m b e:Int} (h:(J7 m b e).2=0):Zr (J7 m b e).1∧(J7 m b e).1.now=0∧(J7 m b e).1.books=[[]]∧(J7 m b e).1.queue.wait=[]∧(J7 m b e).1.heads.length=1:=by
 unfold J7 at h ⊢
 split at h
 · cases h
 ·
  rename_i h1
  rw [if_neg h1]
  simp only [not_or,Hx] at h1
  obtain ⟨a1,a2,a3⟩:=h1
  have b1:=VY.1 a1;have b2:=VY.1 a2;have b3:=VY.1 a3
  have hT:ZY []:=⟨by simp,by simp,by simp⟩
  have hroot:=Jf5 (q:=[]) hT (by simp) (by simp)
  have hb:=JeT (K9 [] []) []
  have hc:JK ⟨0,(JY [] []).1,0,0⟩=0:=by
   rw [hroot];unfold JK;simp only
   rw [if_neg (by omega),if_neg (by simp)]
  have hf:KZ (JY [] []).1 0=(⟨0,(JY [] []).1,0,0⟩,0):=by unfold KZ;rw [if_neg (by omega)]
  rw [hf]
  refine ⟨⟨Qj.2 ⟨by simp only;omega,by simp only;omega,by simp;omega,by simp⟩,b2,b3,⟨by simp,by simp⟩,⟨by simp,by simp,?_,?_⟩,rfl,rfl,by simp [W9],?_,?_⟩,rfl,rfl,rfl,rfl⟩
  · intro x hx;simp at hx;rw [hx];exact hc
  · intro k x y hx hy;have:=(Hq.1 hy).1;simp at this
  ·
   intro k x hx
   have hk:k=0:=by have:=(Hq.1 hx).1;simp at this;exact this
   subst hk
   simp at hx
   subst hx
   exact ⟨by rw [hroot],by simp⟩
  · simp [Ja3,WB,Qk,Q7,nn,dd]
theorem JlT:∀ (l p:Bs),nmE p l=0→(∀ n∈l,KS n=true)∧l.Nodup∧∀ n∈l,n ∉ p
 | [],_,_=>by simp
 | n::l,p,h=>by
  unfold nmE at h
  split at h
  · cases h
  ·
   rename_i h1
   simp only [not_or,Hx] at h1
   obtain ⟨q1,q2,q3⟩:=JlT l (p++[n]) h
   have hn:n ∉ p:=fun hp=>h1.2 (Hu.2 ⟨n,hp,by simp⟩)
   refine ⟨fun x hx=>?_,List.nodup_cons.2 ⟨fun hx=>(q3 n hx) (by simp),q2⟩,fun x hx=>?_⟩
   ·
    rcases HA.1 hx with rfl | hx
    · exact h1.1
    · exact q1 x hx
   ·
    rcases HA.1 hx with rfl | hx
    · exact hn
    · exact fun hp=>q3 x hx (by simp [hp])
theorem Jil {s:Kx} {h:JX} {i:Nat} {o:Qp} (hh:JK h=0) (hn:nmE [] s.names=0) (ho:(Z8 s h)[i]? = some o):Kg o=0∧s.names[i]? = some o.name∧s.keys[i]? = some o.key∧o.head=h∧o.wanted=[]∧o.had=0:=by
 unfold Z8 at ho
 rw [List.getElem?_map,Option.map_eq_some_iff] at ho
 obtain ⟨⟨n,k⟩,hz,rfl⟩:=ho
 rw [List.getElem?_zip_eq_some] at hz
 obtain ⟨z1,z2⟩:=hz
 have hp:=(JlT _ _ hn).1 n (Hr z1)
 have hc:Kg ⟨n,k,h,[],0⟩=0:=Qb.2 ⟨hp,hh,by simp,by simp,by simp,by simp⟩
 have e:Kk n k h=(⟨n,k,h,[],0⟩,0):=by unfold Kk;rw [if_neg (by omega)]
 simp only [e]
 exact ⟨hc,z1,z2,by simp⟩
theorem Jcg {s:Kx} (h:QQ s=0):ZV s (QH s)∧WW (QH s)∧(QH s).town.owners.length=s.names.length∧(QH s).town.polls.length=s.names.length:=by
 obtain ⟨b1,b2,b3,b4,b5,b6,b7⟩:=Jaz h
 obtain ⟨c1,c2,c3,c4,c5⟩:=Jcf b4
 have hf:JK (W2 (J7 s.most s.batch s.every).1.heads)=0:=c1.chain.ok _ (Hr c1.chain.first)
 refine ⟨⟨c1,?_,?_,?_,?_⟩,?_,JdU h _,?_⟩
 · show Ql ⟨0,[]⟩=0;exact JkW (by simp) (by simp) (by simp) (by simp)
 · show (0:Int)=(J7 s.most s.batch s.every).1.now;exact c2.symm
 ·
  intro i o ho
  obtain ⟨q1,q2,q3,_⟩:=Jil hf b3 ho
  exact ⟨q1,q2,q3⟩
 ·
  intro i p hp
  have:=Hr hp
  have:=(List.mem_replicate.1 this).2
  rw [this]
  obtain ⟨q1,q2⟩:=Jgh b5
  rw [q2];exact JbN q1
 · intro l hl;simp [QH] at hl
 · show (HE _ _).length=_;rw [List.length_replicate];exact JdU h _
theorem Vb {s:Kx} {l:List K6} (h:(Jt s l).2.2=0):Kh (Jt s l).1.clerk=0∧Ql (Jt s l).1.net=0∧(Jt s l).1.net.now=(Jt s l).1.clerk.now∧(Jt s l).1.owners.length=s.names.length∧(Jt s l).1.polls.length=s.names.length∧s.keys.length=s.names.length ∧
  (∀ (i:Nat) o,(Jt s l).1.owners[i]? = some o→Kg o=0∧s.names[i]? = some o.name∧s.keys[i]? = some o.key)∧∀ (i:Nat) p,(Jt s l).1.polls[i]? = some p→KL p=0:=by
 obtain ⟨h1,h2,h3⟩:=Jik h
 obtain ⟨b1,b2,b3,b4⟩:=Jcg h1
 have hi:=i_dos l b1 b2
 have hb:=Jaz h1
 have hg:=JoT l (t:=QH s) (by rw [b3];exact hb.1)
 rw [h3]
 exact ⟨Yo.2 hi.clerk,hi.net,hi.now,hg.own.trans b3,hg.polls.trans b4,hb.2.1,hi.own,hi.poll⟩
abbrev Ke (x:JI) (a0:Ba) (c0:Nat) (a1:Ba) (c1:Nat) (a2:Ba) (c2:Nat) (a3:Ba) (c3:Nat) (a4:Ba) (c4:Nat) (a5:Ba) (c5:Nat) (a6:Ba) (c6:Nat) (a7:Ba) (c7:Nat):Bv:=[I x.town.clerk.queue.most,Sl a0 x.town.clerk.queue.wait.length c0,I x.town.clerk.batch,I x.town.clerk.every,I x.town.clerk.now,Sl a1 x.town.clerk.heads.length c1,Sl a2 x.town.clerk.books.length c2,Sl a3 x.town.owners.length c3,Sl a4 x.town.polls.length c4,I x.town.net.now,Sl a5 x.town.net.way.length c5,I x.reach,Sl a6 x.fates.length c6,Sl a7 x.events.length c7]
abbrev vTownT (x:JI) (a0:Ba) (c0:Nat) (a1:Ba) (c1:Nat) (a2:Ba) (c2:Nat) (a3:Ba) (c3:Nat) (a4:Ba) (c4:Nat) (a5:Ba) (c5:Nat) (a6:Ba) (c6:Nat) (a7:Ba) (c7:Nat):Value:=.agg #[I x.town.clerk.queue.most,Sl a0 x.town.clerk.queue.wait.length c0,I x.town.clerk.batch,I x.town.clerk.every,I x.town.clerk.now,Sl a1 x.town.clerk.heads.length c1,Sl a2 x.town.clerk.books.length c2,Sl a3 x.town.owners.length c3,Sl a4 x.town.polls.length c4,I x.town.net.now,Sl a5 x.town.net.way.length c5,I x.reach,Sl a6 x.fates.length c6,Sl a7 x.events.length c7]
theorem Jch (G:J5) (b:Nat) (t:JI) (a_1:Ba) (c_1:Nat) (a_5:Ba) (c_5:Nat) (a_6:Ba) (c_6:Nat) (a_7:Ba) (c_7:Nat) (a_8:Ba) (c_8:Nat) (a_10:Ba) (c_10:Nat) (a_12:Ba) (c_12:Nat) (a_13:Ba) (c_13:Nat) (r_7:Bg) (r_8:Bg) (r_12:Bg) (r_13:Bg) (h_0:rI t.town.clerk.queue.most) (h_1:RS Q6 G a_1 c_1 t.town.clerk.queue.wait) (h_2:rI t.town.clerk.batch) (h_3:rI t.town.clerk.every) (h_4:rI t.town.clerk.now) (h_5:RS KO G a_5 c_5 t.town.clerk.heads) (h_6:RS QA G a_6 c_6 t.town.clerk.books) (h_7:JR Q9 G a_7 c_7 t.town.owners r_7) (h_8:JR WK G a_8 c_8 t.town.polls r_8) (h_9:rI t.town.net.now) (h_10:RS Kn G a_10 c_10 t.town.net.way) (h_11:rI t.reach) (h_12:JR VG G a_12 c_12 t.fates r_12) (h_13:JR Wn G a_13 c_13 t.events r_13) (k:Int) :JcH 62 #[Pt b 0,I k] G [[Sg b 0 [I t.town.clerk.queue.most,Sl a_1 t.town.clerk.queue.wait.length c_1,I t.town.clerk.batch,I t.town.clerk.every,I t.town.clerk.now,Sl a_5 t.town.clerk.heads.length c_5,Sl a_6 t.town.clerk.books.length c_6,Sl a_7 t.town.owners.length c_7,Sl a_8 t.town.polls.length c_8,I t.town.net.now,Sl a_10 t.town.net.way.length c_10,I t.reach,Sl a_12 t.fates.length c_12,Sl a_13 t.events.length c_13]],r_7,r_8,r_12,r_13] (fun u G' L'=>∃ (a_z1:Ba) (c_z1:Nat) (a_z5:Ba) (c_z5:Nat) (a_z6:Ba) (c_z6:Nat) (a_z7:Ba) (c_z7:Nat) (a_z8:Ba) (c_z8:Nat) (a_z10:Ba) (c_z10:Nat) (a_z12:Ba) (c_z12:Nat) (a_z13:Ba) (c_z13:Nat) (r_z7:Bg) (r_z8:Bg) (r_z12:Bg) (r_z13:Bg),u=Bo (Zi t k)∧(rI t.town.clerk.queue.most)∧(RS Q6 G' a_z1 c_z1 t.town.clerk.queue.wait)∧(rI t.town.clerk.batch)∧(rI t.town.clerk.every)∧(rI t.town.clerk.now)∧(RS KO G' a_z5 c_z5 t.town.clerk.heads)∧(RS QA G' a_z6 c_z6 t.town.clerk.books)∧(JR Q9 G' a_z7 c_z7 t.town.owners r_z7)∧(JR WK G' a_z8 c_z8 t.town.polls r_z8)∧(rI t.town.net.now)∧(RS Kn G' a_z10 c_z10 t.town.net.way)∧(rI t.reach)∧(JR VG G' a_z12 c_z12 t.fates r_z12)∧(JR Wn G' a_z13 c_z13 t.events r_z13)∧L'=[[Sg b 0 [I t.town.clerk.queue.most,Sl a_z1 t.town.clerk.queue.wait.length c_z1,I t.town.clerk.batch,I t.town.clerk.every,I t.town.clerk.now,Sl a_z5 t.town.clerk.heads.length c_z5,Sl a_z6 t.town.clerk.books.length c_z6,Sl a_z7 t.town.owners.length c_z7,Sl a_z8 t.town.polls.length c_z8,I t.town.net.now,Sl a_z10 t.town.net.way.length c_z10,I t.reach,Sl a_z12 t.fates.length c_z12,Sl a_z13 t.events.length c_z13]],r_z7,r_z8,r_z12,r_z13]):=by
 intro Lr
 refine JP Tryz.func62 17 [(0,Pt b 0),(1,I k)] rfl (fun w0 G0=>?_)
 show TC _ _ _ _ _ ([Sg b 0 (Ke t a_1 c_1 a_5 c_5 a_6 c_6 a_7 c_7 a_8 c_8 a_10 c_10 a_12 c_12 a_13 c_13)]::r_7::r_8::r_12::r_13::Lr)
 refine Jg [0] [] (Jf (Jd (Jb [0,0,0] [(7,Bo (decide (k ≥ 0)))] (Ks (decide (k ≥ 0)) [7] [0,0,0,0,0,2,0,0,0] [1,1,1,1,1,1,1,1,0] (fun bb=>[(16,Bo (bb && (decide (k<(t.town.owners.length:Int)))))]) (Jb [0] [(4,Bo ((decide (k ≥ 0)) && (decide (k<(t.town.owners.length:Int)))))] (Je (Jc (Jn (Jk 4 (Jk 4 (Jk 4 (Jk 4 (Jk 4 ?_)))))))))))))
 have hf1:(t,Zi t k)=(t,(decide (k ≥ 0)) && (decide (k<(t.town.owners.length:Int)))):=by
  rfl
 refine Jo [0] [Bo ((decide (k ≥ 0)) && (decide (k<(t.town.owners.length:Int))))] (KB (Lr:=Lr) [[Sg b 0 (Ke t a_1 c_1 a_5 c_5 a_6 c_6 a_7 c_7 a_8 c_8 a_10 c_10 a_12 c_12 a_13 c_13)],r_7,r_8,r_12,r_13] (Jh _) ?_)
 try rw [hf1];try dsimp only
 exact ⟨a_1,c_1,a_5,c_5,a_6,c_6,a_7,c_7,a_8,c_8,a_10,c_10,a_12,c_12,a_13,c_13,r_7,r_8,r_12,r_13,rfl,h_0,h_1,h_2,h_3,h_4,h_5,h_6,h_7,h_8,h_9,h_10,h_11,h_12,h_13,rfl⟩
theorem Jew (G:J5) (b:Nat) (t:JI) (a_1:Ba) (c_1:Nat) (a_5:Ba) (c_5:Nat) (a_6:Ba) (c_6:Nat) (a_7:Ba) (c_7:Nat) (a_8:Ba) (c_8:Nat) (a_10:Ba) (c_10:Nat) (a_12:Ba) (c_12:Nat) (a_13:Ba) (c_13:Nat) (r_7:Bg) (r_8:Bg) (r_12:Bg) (r_13:Bg) (h_0:rI t.town.clerk.queue.most) (h_1:RS Q6 G a_1 c_1 t.town.clerk.queue.wait) (h_2:rI t.town.clerk.batch) (h_3:rI t.town.clerk.every) (h_4:rI t.town.clerk.now) (h_5:RS KO G a_5 c_5 t.town.clerk.heads) (h_6:RS QA G a_6 c_6 t.town.clerk.books) (h_7:JR Q9 G a_7 c_7 t.town.owners r_7) (h_8:JR WK G a_8 c_8 t.town.polls r_8) (h_9:rI t.town.net.now) (h_10:RS Kn G a_10 c_10 t.town.net.way) (h_11:rI t.reach) (h_12:JR VG G a_12 c_12 t.fates r_12) (h_13:JR Wn G a_13 c_13 t.events r_13) (kind:Int) (hw_kind:rI kind) (who:Int) (hw_who:rI who) (n:Int) (hw_n:rI n) (at_:Int) (hw_at_:rI at_) (hev:t.events.length≤1000000):JcH 104 #[Pt b 0,I kind,I who,I n,I at_] G [[Sg b 0 [I t.town.clerk.queue.most,Sl a_1 t.town.clerk.queue.wait.length c_1,I t.town.clerk.batch,I t.town.clerk.every,I t.town.clerk.now,Sl a_5 t.town.clerk.heads.length c_5,Sl a_6 t.town.clerk.books.length c_6,Sl a_7 t.town.owners.length c_7,Sl a_8 t.town.polls.length c_8,I t.town.net.now,Sl a_10 t.town.net.way.length c_10,I t.reach,Sl a_12 t.fates.length c_12,Sl a_13 t.events.length c_13]],r_7,r_8,r_12,r_13] (fun u G' L'=>∃ (a_z1:Ba) (c_z1:Nat) (a_z5:Ba) (c_z5:Nat) (a_z6:Ba) (c_z6:Nat) (a_z7:Ba) (c_z7:Nat) (a_z8:Ba) (c_z8:Nat) (a_z10:Ba) (c_z10:Nat) (a_z12:Ba) (c_z12:Nat) (a_z13:Ba) (c_z13:Nat) (r_z7:Bg) (r_z8:Bg) (r_z12:Bg) (r_z13:Bg),u=.tuple #[]∧(rI ((Q8 t kind who n at_).town.clerk.queue.most))∧(RS Q6 G' a_z1 c_z1 ((Q8 t kind who n at_).town.clerk.queue.wait))∧(rI ((Q8 t kind who n at_).town.clerk.batch))∧(rI ((Q8 t kind who n at_).town.clerk.every))∧(rI ((Q8 t kind who n at_).town.clerk.now))∧(RS KO G' a_z5 c_z5 ((Q8 t kind who n at_).town.clerk.heads))∧(RS QA G' a_z6 c_z6 ((Q8 t kind who n at_).town.clerk.books))∧(JR Q9 G' a_z7 c_z7 ((Q8 t kind who n at_).town.owners) r_z7)∧(JR WK G' a_z8 c_z8 ((Q8 t kind who n at_).town.polls) r_z8)∧(rI ((Q8 t kind who n at_).town.net.now))∧(RS Kn G' a_z10 c_z10 ((Q8 t kind who n at_).town.net.way))∧(rI ((Q8 t kind who n at_).reach))∧(JR VG G' a_z12 c_z12 ((Q8 t kind who n at_).fates) r_z12)∧(JR Wn G' a_z13 c_z13 ((Q8 t kind who n at_).events) r_z13)∧L'=[[Sg b 0 [I ((Q8 t kind who n at_).town.clerk.queue.most),Sl a_z1 (((Q8 t kind who n at_).town.clerk.queue.wait).length) c_z1,I ((Q8 t kind who n at_).town.clerk.batch),I ((Q8 t kind who n at_).town.clerk.every),I ((Q8 t kind who n at_).town.clerk.now),Sl a_z5 (((Q8 t kind who n at_).town.clerk.heads).length) c_z5,Sl a_z6 (((Q8 t kind who n at_).town.clerk.books).length) c_z6,Sl a_z7 (((Q8 t kind who n at_).town.owners).length) c_z7,Sl a_z8 (((Q8 t kind who n at_).town.polls).length) c_z8,I ((Q8 t kind who n at_).town.net.now),Sl a_z10 (((Q8 t kind who n at_).town.net.way).length) c_z10,I ((Q8 t kind who n at_).reach),Sl a_z12 (((Q8 t kind who n at_).fates).length) c_z12,Sl a_z13 (((Q8 t kind who n at_).events).length) c_z13]],r_z7,r_z8,r_z12,r_z13]):=by
 intro Lr
 refine JP Tryz.func104 24 [(0,Pt b 0),(1,I kind),(2,I who),(3,I n),(4,I at_)] rfl (fun w0 G0=>?_)
 show TC _ _ _ _ _ ([Sg b 0 (Ke t a_1 c_1 a_5 c_5 a_6 c_6 a_7 c_7 a_8 c_8 a_10 c_10 a_12 c_12 a_13 c_13)]::r_7::r_8::r_12::r_13::Lr)
 refine Jd (Jb [0,0,0,0,2,0,0,0,0,0] [(10,Pt b 0),(14,Sl a_13 t.events.length c_13),(19,.agg #[I kind,I who,I n,I at_])] (Km 20 1 #[I kind,I who,I n,I at_] 74 (fun b1=>Qd (b:=b1) (cs:=[I kind,I who,I n,I at_]) 21 74 5 0 (E:=Wn) (⟨kind,who,n,at_⟩:Yj) h_13 ⟨rfl,hw_kind,hw_who,hw_n,hw_at_⟩ (by (try simp only [Wn,Hc,He,Hh]);omega) (by (try simp only [Wn,Hc,He,Hh]);omega) (fun a1 c1 r1 hr1=>JW [0,0,5] [] ([Sg b1 0 [I kind,I who,I n,I at_]]::[Sg b 0 (Ke (⟨t.town,t.reach,t.fates,(t.events++[(⟨kind,who,n,at_⟩:Yj)])⟩:JI) a_1 c_1 a_5 c_5 a_6 c_6 a_7 c_7 a_8 c_8 a_10 c_10 a_12 c_12 a1 c1)]::r_7::r_8::r_12::r1::Lr) (Je (Jk 5 (Jk 5 (Jk 5 (Jk 5 (Jk 5 ?_))))))))))
 have hf1:Q8 t kind who n at_=(⟨t.town,t.reach,t.fates,t.events++[(⟨kind,who,n,at_⟩:Yj)]⟩:JI):=by
  rfl
 refine ZW [] [] (KB (Lr:=Lr) [[Sg b 0 (Ke (⟨t.town,t.reach,t.fates,(t.events++[(⟨kind,who,n,at_⟩:Yj)])⟩:JI) a_1 c_1 a_5 c_5 a_6 c_6 a_7 c_7 a_8 c_8 a_10 c_10 a_12 c_12 a1 c1)],r_7,r_8,r_12,r1] (Jh _) ?_)
 rw [hf1];try dsimp only
 exact ⟨a_1,c_1,a_5,c_5,a_6,c_6,a_7,c_7,a_8,c_8,a_10,c_10,a_12,c_12,a1,c1,r_7,r_8,r_12,r1,rfl,h_0,h_1,h_2,h_3,h_4,h_5,h_6,h_7,h_8,h_9,h_10,h_11,h_12,hr1,rfl⟩
set_option maxRecDepth 20000 in
abbrev Wd (l:JU) (t:JI):=Kz t.town.net l ([1])
abbrev Jgl (t:JI):=(⟨t.town,t.reach,(t.fates.drop 1),t.events⟩:JI)
theorem Jhv (G:J5) (b:Nat) (t:JI) (a_1:Ba) (c_1:Nat) (a_5:Ba) (c_5:Nat) (a_6:Ba) (c_6:Nat) (a_7:Ba) (c_7:Nat) (a_8:Ba) (c_8:Nat) (a_10:Ba) (c_10:Nat) (a_12:Ba) (c_12:Nat) (a_13:Ba) (c_13:Nat) (r_7:Bg) (r_8:Bg) (r_12:Bg) (r_13:Bg) (h_0:rI t.town.clerk.queue.most) (h_1:RS Q6 G a_1 c_1 t.town.clerk.queue.wait) (h_2:rI t.town.clerk.batch) (h_3:rI t.town.clerk.every) (h_4:rI t.town.clerk.now) (h_5:RS KO G a_5 c_5 t.town.clerk.heads) (h_6:RS QA G a_6 c_6 t.town.clerk.books) (h_7:JR Q9 G a_7 c_7 t.town.owners r_7) (h_8:JR WK G a_8 c_8 t.town.polls r_8) (h_9:rI t.town.net.now) (h_10:RS Kn G a_10 c_10 t.town.net.way) (h_11:rI t.reach) (h_12:JR VG G a_12 c_12 t.fates r_12) (h_13:JR Wn G a_13 c_13 t.events r_13) (vs_l:Bv) (l:JU) (h_l:Kn.R G vs_l l) :JcH 168 #[Pt b 0,.agg vs_l.toArray] G [[Sg b 0 [I t.town.clerk.queue.most,Sl a_1 t.town.clerk.queue.wait.length c_1,I t.town.clerk.batch,I t.town.clerk.every,I t.town.clerk.now,Sl a_5 t.town.clerk.heads.length c_5,Sl a_6 t.town.clerk.books.length c_6,Sl a_7 t.town.owners.length c_7,Sl a_8 t.town.polls.length c_8,I t.town.net.now,Sl a_10 t.town.net.way.length c_10,I t.reach,Sl a_12 t.fates.length c_12,Sl a_13 t.events.length c_13]],r_7,r_8,r_12,r_13] (fun u G' L'=>∃ (a_z1:Ba) (c_z1:Nat) (a_z5:Ba) (c_z5:Nat) (a_z6:Ba) (c_z6:Nat) (a_z7:Ba) (c_z7:Nat) (a_z8:Ba) (c_z8:Nat) (a_z10:Ba) (c_z10:Nat) (a_z12:Ba) (c_z12:Nat) (a_z13:Ba) (c_z13:Nat) (r_z7:Bg) (r_z8:Bg) (r_z12:Bg) (r_z13:Bg),u=.tuple #[]∧(rI ((Wo t l).town.clerk.queue.most))∧(RS Q6 G' a_z1 c_z1 ((Wo t l).town.clerk.queue.wait))∧(rI ((Wo t l).town.clerk.batch))∧(rI ((Wo t l).town.clerk.every))∧(rI ((Wo t l).town.clerk.now))∧(RS KO G' a_z5 c_z5 ((Wo t l).town.clerk.heads))∧(RS QA G' a_z6 c_z6 ((Wo t l).town.clerk.books))∧(JR Q9 G' a_z7 c_z7 ((Wo t l).town.owners) r_z7)∧(JR WK G' a_z8 c_z8 ((Wo t l).town.polls) r_z8)∧(rI ((Wo t l).town.net.now))∧(RS Kn G' a_z10 c_z10 ((Wo t l).town.net.way))∧(rI ((Wo t l).reach))∧(JR VG G' a_z12 c_z12 ((Wo t l).fates) r_z12)∧(JR Wn G' a_z13 c_z13 ((Wo t l).events) r_z13)∧L'=[[Sg b 0 [I ((Wo t l).town.clerk.queue.most),Sl a_z1 (((Wo t l).town.clerk.queue.wait).length) c_z1,I ((Wo t l).town.clerk.batch),I ((Wo t l).town.clerk.every),I ((Wo t l).town.clerk.now),Sl a_z5 (((Wo t l).town.clerk.heads).length) c_z5,Sl a_z6 (((Wo t l).town.clerk.books).length) c_z6,Sl a_z7 (((Wo t l).town.owners).length) c_z7,Sl a_z8 (((Wo t l).town.polls).length) c_z8,I ((Wo t l).town.net.now),Sl a_z10 (((Wo t l).town.net.way).length) c_z10,I ((Wo t l).reach),Sl a_z12 (((Wo t l).fates).length) c_z12,Sl a_z13 (((Wo t l).events).length) c_z13]],r_z7,r_z8,r_z12,r_z13]):=by
 obtain ⟨a1,c1,a2,c2,a3,c3,rfl,w1,w2,w3,w4,hs1,w5,w6,w7,w8,w9,hs2,hs3⟩:=h_l
 intro Lr
 refine JP Tryz.func168 46 [(0,Pt b 0),(1,(Q1 l a1 c1 a2 c2 a3 c3))] rfl (fun w0 G0=>?_)
 show TC _ _ _ _ _ ([Sg b 0 (Ke t a_1 c_1 a_5 c_5 a_6 c_6 a_7 c_7 a_8 c_8 a_10 c_10 a_12 c_12 a_13 c_13)]::r_7::r_8::r_12::r_13::Lr)
 refine Jf (Jd (Jv 3 #[I l.to_,I l.from_,I l.since,I l.due,Sl a1 l.heads.length c1,I l.reply.head.epoch,U l.reply.head.root,U l.reply.head.prev,I l.reply.head.at_,Sr l.reply.proof.name,Sl a2 l.reply.proof.entries.length c2,Sl a3 l.reply.proof.sides.length c3] 51 (fun b1=>Je (Jc (Jf (Jd (Km 7 1 #[I 1] 3 (fun b2=>Jb [0] [(4,Sl (At b2 0) 1 1)] (Je (Jc (Jf (Jg [0,0,0,6,0,0] [(13,Bo (decide ((t.fates.length:Int) > 0)))] (Jl (decide ((t.fates.length:Int) > 0)) (fun h1=>?_) (fun h1=>?_))))))))))))))
 obtain ⟨x1,hx1⟩:=QS (l:=t.fates) (k:=0) (by omega)
 obtain ⟨b3,o1,_,_,⟨a4,c4,rfl,hs4⟩,ha1,hre1,hc1⟩:=JR.ix h_12 hx1
 obtain ⟨r1,hr1,hsh1⟩:=JR.dropX h_12 1 (by omega)
 obtain ⟨a5,ea1⟩:∃ z_:Ba,z_=(if c_12=1 then a_12 else (a_12).map (·.add (1*1))):=⟨_,rfl⟩
 have hr1:JR VG G a5 (c_12-1) (t.fates.drop 1) r1:=by rw [ea1];exact hr1
 refine Kt [15] (Wm [(0,Pt b 0),(1,Pt b 0),(2,Pt b 0),(3,Pt b 12),(4,Sl a_12 t.fates.length c_12),(5,Pt b3 (o1+0*1)),(6,Sl a4 x1.length c4),(7,Pt b 0),(8,Pt b 0),(9,Pt b 12),(10,Sl a_12 t.fates.length c_12),(11,Sl a5 ((t.fates.drop 1).length) (c_12-1)),(12,Sl a4 x1.length c4),(13,Pt b 0),(14,Pt b 12)] (JF [] [(0,0),(1,0),(2,0),(3,0),(4,6),(7,0),(8,0),(9,0),(10,6),(12,0),(13,0),(14,0)] [5,6,11] [15] (Kf ?_ (Kf ?_ (Kf ?_ KY))) (Kf ?_ KY)))
 refine Jr 5 19 (Pt b3 (o1+0*1)) [(18,Sl a_12 t.fates.length c_12)] (fun X=>?_)
 exact Qs (b:=b3) (off:=o1) (len:=t.fates.length) (cap:=c_12) (ik:=.i64) 19 39 1 0 ha1 J4 Jp
 refine Jr 6 20 (Sl a4 x1.length c4) [(19,Pt b3 (o1+0*1))] (fun X=>?_)
 exact W4 (off:=o1) (p:=0*1) (cs:=[Sl a4 x1.length c4]) 20 39 5 0 (Sl a4 x1.length c4) hre1 hc1 Jp
 refine Jr 11 25 (Sl a5 ((t.fates.drop 1).length) (c_12-1)) [(24,Sl a_12 t.fates.length c_12)] (fun X=>?_)
 exact Ws (a:=a_12) (len:=t.fates.length) (cap:=c_12) 25 1 (some (I 1)) none 1 t.fates.length (.inr ⟨_,rfl⟩) (.inl ⟨rfl,rfl⟩) J4 ea1 rfl (by rw [List.length_drop]) (by have q_:=h_12.lec;omega) Jp
 refine Jz 15 [(25,Sl a5 ((t.fates.drop 1).length) (c_12-1)),(27,Pt b 12)] (fun X=>?_)
 refine KC 2 ([Sg b2 0 [I 1]]::[Sg b1 0 (Ky l a1 c1 a2 c2 a3 c3)]::[Sg b 0 (Ke (Jgl t) a_1 c_1 a_5 c_5 a_6 c_6 a_7 c_7 a_8 c_8 a_10 c_10 a5 (c_12-1) a_13 c_13)]::r_7::r_8::r_12::r_13::Lr) (J6 [] (Kl [0,1,2,3,4,5,6,7,8,9,10,11,12,13,14] [] [] [(0,Pt b 0),(3,Pt b1 0),(4,Sl a4 x1.length c4)] (Ha _) (tq_shr 5 hsh1 (Jc ?_))))
 refine Ye (σ:=Nat×Ba×Nat×J5) (fun q_=>(J5.le G q_.2.2.2)∧(rI (((Kz t.town.net l x1).1).now))∧(RS Kn q_.2.2.2 q_.2.1 q_.2.2.1 (((Kz t.town.net l x1).1).way))) (fun q_=>[(0,Pt b 0),(5,Pt q_.1 0),(6,I ((Kz t.town.net l x1).2))]) (fun q_=>q_.2.2.2) (fun q_=>([Sg q_.1 0 [I (((Kz t.town.net l x1).1).now),Sl q_.2.1 ((((Kz t.town.net l x1).1).way).length) q_.2.2.1]]::[Sg b2 0 [I 1]]::[Sg b1 0 (Ky l a1 c1 a2 c2 a3 c3)]::[Sg b 0 (Ke (Jgl t) a_1 c_1 a_5 c_5 a_6 c_6 a_7 c_7 a_8 c_8 a_10 c_10 a5 (c_12-1) a_13 c_13)]::r_7::r_8::r1::r_13::Lr)) ?_ (fun q_ hs=>?_)
 refine Kt [7,11,12] (Wm [(0,Pt b 0),(1,Pt b 0),(2,Pt b 0),(3,Pt b 9),(4,.agg #[I t.town.net.now,Sl a_10 t.town.net.way.length c_10]),(5,(Q1 l a1 c1 a2 c2 a3 c3)),(6,Sl a4 x1.length c4)] (JF [] [(0,0),(1,0),(2,0),(3,0),(4,6),(5,4),(6,0)] [] [7,11] (Ha _) (Kf ?_ (Kf ?_ KY))))
 refine Jz 7 [(33,.agg #[I t.town.net.now,Sl a_10 t.town.net.way.length c_10]),(34,(Q1 l a1 c1 a2 c2 a3 c3)),(35,Sl a4 x1.length c4)] (fun X=>?_)
 refine JN 36 (Y2 G [I t.town.net.now,Sl a_10 t.town.net.way.length c_10] t.town.net (⟨a_10,c_10,rfl,h_9,h_10⟩) (Ky l a1 c1 a2 c2 a3 c3) l (⟨a1,c1,a2,c2,a3,c3,rfl,w1,w2,w3,w4,hs1,w5,w6,w7,w8,w9,hs2,hs3⟩) a4 c4 x1 hs4) (fun v G1 L1 hl1 hp=>?_)
 obtain ⟨a6,c5,rfl,w10,hs5,rfl⟩:=hp
 refine JA [(7,.tuple #[.agg #[I (((Kz t.town.net l x1).1).now),Sl a6 ((((Kz t.town.net l x1).1).way).length) c5],I ((Kz t.town.net l x1).2)]),(8,.tuple #[.agg #[I (((Kz t.town.net l x1).1).now),Sl a6 ((((Kz t.town.net l x1).1).way).length) c5],I ((Kz t.town.net l x1).2)]),(9,.agg #[I (((Kz t.town.net l x1).1).now),Sl a6 ((((Kz t.town.net l x1).1).way).length) c5]),(10,I ((Kz t.town.net l x1).2))] (JF [0,1,2,3,4,5,6] [(8,0),(9,0),(10,0)] [] [11] (Ha _) (Kf ?_ KY))
 refine Jz 11 [] (fun X=>?_)
 refine Jv 5 #[I 0,Sl none 0 0] 65 (fun b4=>JA [(11,Pt b4 0)] (JF [0,1,2,3,4,5,6] [(8,0),(9,0),(10,0)] [] [12] (Ha _) (Kf ?_ KY)))
 refine Jz 12 [(5,Pt b4 0),(37,.agg #[I (((Kz t.town.net l x1).1).now),Sl a6 ((((Kz t.town.net l x1).1).way).length) c5])] (fun X=>?_)
 exact KC 0 ([Sg b4 0 [I (((Kz t.town.net l x1).1).now),Sl a6 ((((Kz t.town.net l x1).1).way).length) c5]]::[Sg b2 0 [I 1]]::[Sg b1 0 (Ky l a1 c1 a2 c2 a3 c3)]::[Sg b 0 (Ke (Jgl t) a_1 c_1 a_5 c_5 a_6 c_6 a_7 c_7 a_8 c_8 a_10 c_10 a5 (c_12-1) a_13 c_13)]::r_7::r_8::r1::r_13::Lr) (J6 [(13,I ((Kz t.town.net l x1).2))] (Kl [0,1,2,3,4,5,6,8,9] [(10,0),(13,0)] [] [(0,Pt b 0),(5,Pt b4 0),(6,I ((Kz t.town.net l x1).2))] (Ha _) (QW (b4,a6,c5,G1) ⟨hl1,w10,hs5⟩)))
 refine Jz 11 [] (fun X=>?_)
 refine Jv 5 #[I 0,Sl none 0 0] 65 (fun b5=>JA [(11,Pt b5 0)] (JF [] [(0,0),(1,0),(2,0),(3,0),(4,8),(5,6),(6,0)] [] [7] (Ha _) (Kf ?_ KY)))
 refine Jz 7 [(33,.agg #[I t.town.net.now,Sl a_10 t.town.net.way.length c_10]),(34,(Q1 l a1 c1 a2 c2 a3 c3)),(35,Sl a4 x1.length c4)] (fun X=>?_)
 refine JN 36 (Y2 G [I t.town.net.now,Sl a_10 t.town.net.way.length c_10] t.town.net (⟨a_10,c_10,rfl,h_9,h_10⟩) (Ky l a1 c1 a2 c2 a3 c3) l (⟨a1,c1,a2,c2,a3,c3,rfl,w1,w2,w3,w4,hs1,w5,w6,w7,w8,w9,hs2,hs3⟩) a4 c4 x1 hs4) (fun v G2 L1 hl2 hp=>?_)
 obtain ⟨a7,c6,rfl,w11,hs6,rfl⟩:=hp
 refine JA [(7,.tuple #[.agg #[I (((Kz t.town.net l x1).1).now),Sl a7 ((((Kz t.town.net l x1).1).way).length) c6],I ((Kz t.town.net l x1).2)]),(8,.tuple #[.agg #[I (((Kz t.town.net l x1).1).now),Sl a7 ((((Kz t.town.net l x1).1).way).length) c6],I ((Kz t.town.net l x1).2)]),(9,.agg #[I (((Kz t.town.net l x1).1).now),Sl a7 ((((Kz t.town.net l x1).1).way).length) c6]),(10,I ((Kz t.town.net l x1).2))] (JF [0,1,2,3,4,5,6] [(8,0),(9,0),(10,0)] [] [12] (Ha _) (Kf ?_ KY))
 refine Jz 12 [(5,Pt b5 0),(37,.agg #[I (((Kz t.town.net l x1).1).now),Sl a7 ((((Kz t.town.net l x1).1).way).length) c6])] (fun X=>?_)
 exact KC 0 ([Sg b5 0 [I (((Kz t.town.net l x1).1).now),Sl a7 ((((Kz t.town.net l x1).1).way).length) c6]]::[Sg b2 0 [I 1]]::[Sg b1 0 (Ky l a1 c1 a2 c2 a3 c3)]::[Sg b 0 (Ke (Jgl t) a_1 c_1 a_5 c_5 a_6 c_6 a_7 c_7 a_8 c_8 a_10 c_10 a5 (c_12-1) a_13 c_13)]::r_7::r_8::r1::r_13::Lr) (J6 [(13,I ((Kz t.town.net l x1).2))] (Kl [0,1,2,3,4,5,6,8,9] [(10,0),(13,0)] [] [(0,Pt b 0),(5,Pt b5 0),(6,I ((Kz t.town.net l x1).2))] (Ha _) (QW (b5,a7,c6,G2) ⟨hl2,w11,hs6⟩)))
 obtain ⟨b4,a6,c5,G1⟩:=q_
 obtain ⟨hle1,hj1,hj2⟩:=hs
 dsimp only at hle1 hj1 hj2
 dsimp only
 refine Jg [0,0] [(40,Bo (decide ((Kz t.town.net l x1).2=0)))] (Jl (decide ((Kz t.town.net l x1).2=0)) (fun h2=>?_) (fun h2=>?_))
 refine Jd (JW [0,2,0,0,0,9] [] ([Sg b4 0 [I (((Kz t.town.net l x1).1).now),Sl a6 ((((Kz t.town.net l x1).1).way).length) c5]]::[Sg b2 0 [I 1]]::[Sg b1 0 (Ky l a1 c1 a2 c2 a3 c3)]::[Sg b 0 (Ke (⟨(⟨t.town.clerk,t.town.owners,t.town.polls,(Kz t.town.net l x1).1⟩:Wl),t.reach,(t.fates.drop 1),t.events⟩:JI) a_1 c_1 a_5 c_5 a_6 c_6 a_7 c_7 a_8 c_8 a6 c5 a5 (c_12-1) a_13 c_13)]::r_7::r_8::r1::r_13::Lr) (Je (Jk 7 (Jk 7 (Jk 7 (Jk 7 (Jk 7 ?_)))))))
 have hf1:Wo t l=(⟨(⟨t.town.clerk,t.town.owners,t.town.polls,((Kz t.town.net l x1).1)⟩:Wl),t.reach,t.fates.drop 1,t.events⟩:JI):=by
  (rw [JoM (by omega) ‹_›,if_pos ‹_›];done)
 refine ZW [] [] (KB (Lr:=Lr) [[Sg b 0 (Ke (⟨(⟨t.town.clerk,t.town.owners,t.town.polls,(Kz t.town.net l x1).1⟩:Wl),t.reach,(t.fates.drop 1),t.events⟩:JI) a_1 c_1 a_5 c_5 a_6 c_6 a_7 c_7 a_8 c_8 a6 c5 a5 (c_12-1) a_13 c_13)],r_7,r_8,r1,r_13] hle1 ?_)
 rw [hf1];try dsimp only
 exact ⟨a_1,c_1,a_5,c_5,a_6,c_6,a_7,c_7,a_8,c_8,a6,c5,a5,(c_12-1),a_13,c_13,r_7,r_8,r1,r_13,rfl,h_0,(h_1.mono hle1),h_2,h_3,h_4,(h_5.mono hle1),(h_6.mono hle1),(h_7.mono hle1),(h_8.mono hle1),hj1,hj2,h_11,(hr1.mono hle1),(h_13.mono hle1),rfl⟩
 refine Jq (Jk 7 (Jk 7 (Jk 7 (Jk 7 (Jk 7 ?_)))))
 have hf2:Wo t l=(⟨t.town,t.reach,t.fates.drop 1,t.events⟩:JI):=by
  (rw [JoM (by omega) ‹_›,if_neg ‹_›];done)
 refine ZW [] [] (KB (Lr:=Lr) [[Sg b 0 (Ke (Jgl t) a_1 c_1 a_5 c_5 a_6 c_6 a_7 c_7 a_8 c_8 a_10 c_10 a5 (c_12-1) a_13 c_13)],r_7,r_8,r1,r_13] hle1 ?_)
 rw [hf2];try dsimp only
 exact ⟨a_1,c_1,a_5,c_5,a_6,c_6,a_7,c_7,a_8,c_8,a_10,c_10,a5,(c_12-1),a_13,c_13,r_7,r_8,r1,r_13,rfl,h_0,(h_1.mono hle1),h_2,h_3,h_4,(h_5.mono hle1),(h_6.mono hle1),(h_7.mono hle1),(h_8.mono hle1),h_9,(h_10.mono hle1),h_11,(hr1.mono hle1),(h_13.mono hle1),rfl⟩
 refine Jq (Jc ?_)
 refine Ye (σ:=Nat×Ba×Nat×J5) (fun q_=>(J5.le G q_.2.2.2)∧(rI (((Wd l t).1).now))∧(RS Kn q_.2.2.2 q_.2.1 q_.2.2.1 (((Wd l t).1).way))) (fun q_=>[(0,Pt b 0),(5,Pt q_.1 0),(6,I ((Wd l t).2))]) (fun q_=>q_.2.2.2) (fun q_=>([Sg q_.1 0 [I (((Wd l t).1).now),Sl q_.2.1 ((((Wd l t).1).way).length) q_.2.2.1]]::[]::[Sg b1 0 (Ky l a1 c1 a2 c2 a3 c3)]::[Sg b 0 (Ke t a_1 c_1 a_5 c_5 a_6 c_6 a_7 c_7 a_8 c_8 a_10 c_10 a_12 c_12 a_13 c_13)]::r_7::r_8::r_12::r_13::Lr)) ?_ (fun q_ hs=>?_)
 refine Kt [7,11,12] (Wm [(0,Pt b 0),(1,Pt b 0),(2,Pt b 0),(3,Pt b 9),(4,.agg #[I t.town.net.now,Sl a_10 t.town.net.way.length c_10]),(5,(Q1 l a1 c1 a2 c2 a3 c3)),(6,Sl (At b2 0) 1 1)] (JF [] [(0,0),(1,0),(2,0),(3,0),(4,6),(5,4),(6,0)] [] [7,11] (Ha _) (Kf ?_ (Kf ?_ KY))))
 refine Jz 7 [(33,.agg #[I t.town.net.now,Sl a_10 t.town.net.way.length c_10]),(34,(Q1 l a1 c1 a2 c2 a3 c3)),(35,Sl (At b2 0) 1 1)] (fun X=>?_)
 refine QI (b:=b2) (o:=0) (cs:=[I 1]) 0 (fun G3 hl3 hz1=>?_)
 have hs7:RS EI G3 (At b2 0) 1 [1]:=RS.lit [[I 1]] [1] ⟨⟨rfl,(by omega)⟩,trivial⟩ hz1 (Hg rfl) (Hg rfl)
 refine JN 36 (Y2 G3 [I t.town.net.now,Sl a_10 t.town.net.way.length c_10] t.town.net (⟨a_10,c_10,rfl,h_9,(h_10.mono hl3)⟩) (Ky l a1 c1 a2 c2 a3 c3) l (⟨a1,c1,a2,c2,a3,c3,rfl,w1,w2,w3,w4,(hs1.mono hl3),w5,w6,w7,w8,w9,(hs2.mono hl3),(hs3.mono hl3)⟩) (At b2 0) 1 ([1]) hs7) (fun v G4 L1 hl4 hp=>?_)
 obtain ⟨a8,c7,rfl,w12,hs8,rfl⟩:=hp
 refine JA [(7,.tuple #[.agg #[I (((Wd l t).1).now),Sl a8 ((((Wd l t).1).way).length) c7],I ((Wd l t).2)]),(8,.tuple #[.agg #[I (((Wd l t).1).now),Sl a8 ((((Wd l t).1).way).length) c7],I ((Wd l t).2)]),(9,.agg #[I (((Wd l t).1).now),Sl a8 ((((Wd l t).1).way).length) c7]),(10,I ((Wd l t).2))] (JF [0,1,2,3,4,5,6] [(8,0),(9,0),(10,0)] [] [11] (Ha _) (Kf ?_ KY))
 refine Jz 11 [] (fun X=>?_)
 refine Jv 5 #[I 0,Sl none 0 0] 65 (fun b6=>JA [(11,Pt b6 0)] (JF [0,1,2,3,4,5,6] [(8,0),(9,0),(10,0)] [] [12] (Ha _) (Kf ?_ KY)))
 refine Jz 12 [(5,Pt b6 0),(37,.agg #[I (((Wd l t).1).now),Sl a8 ((((Wd l t).1).way).length) c7])] (fun X=>?_)
 exact KC 0 ([Sg b6 0 [I (((Wd l t).1).now),Sl a8 ((((Wd l t).1).way).length) c7]]::[]::[Sg b1 0 (Ky l a1 c1 a2 c2 a3 c3)]::[Sg b 0 (Ke t a_1 c_1 a_5 c_5 a_6 c_6 a_7 c_7 a_8 c_8 a_10 c_10 a_12 c_12 a_13 c_13)]::r_7::r_8::r_12::r_13::Lr) (J6 [(13,I ((Wd l t).2))] (Kl [0,1,2,3,4,5,6,8,9] [(10,0),(13,0)] [] [(0,Pt b 0),(5,Pt b6 0),(6,I ((Wd l t).2))] (Ha _) (QW (b6,a8,c7,G4) ⟨(Ja hl3 hl4),w12,hs8⟩)))
 refine Jz 11 [] (fun X=>?_)
 refine Jv 5 #[I 0,Sl none 0 0] 65 (fun b7=>JA [(11,Pt b7 0)] (JF [] [(0,0),(1,0),(2,0),(3,0),(4,8),(5,6),(6,0)] [] [7] (Ha _) (Kf ?_ KY)))
 refine Jz 7 [(33,.agg #[I t.town.net.now,Sl a_10 t.town.net.way.length c_10]),(34,(Q1 l a1 c1 a2 c2 a3 c3)),(35,Sl (At b2 0) 1 1)] (fun X=>?_)
 refine QI (b:=b2) (o:=0) (cs:=[I 1]) 1 (fun G5 hl5 hz2=>?_)
 have hs9:RS EI G5 (At b2 0) 1 [1]:=RS.lit [[I 1]] [1] ⟨⟨rfl,(by omega)⟩,trivial⟩ hz2 (Hg rfl) (Hg rfl)
 refine JN 36 (Y2 G5 [I t.town.net.now,Sl a_10 t.town.net.way.length c_10] t.town.net (⟨a_10,c_10,rfl,h_9,(h_10.mono hl5)⟩) (Ky l a1 c1 a2 c2 a3 c3) l (⟨a1,c1,a2,c2,a3,c3,rfl,w1,w2,w3,w4,(hs1.mono hl5),w5,w6,w7,w8,w9,(hs2.mono hl5),(hs3.mono hl5)⟩) (At b2 0) 1 ([1]) hs9) (fun v G6 L1 hl6 hp=>?_)
 obtain ⟨a9,c8,rfl,w13,hs10,rfl⟩:=hp
 refine JA [(7,.tuple #[.agg #[I (((Wd l t).1).now),Sl a9 ((((Wd l t).1).way).length) c8],I ((Wd l t).2)]),(8,.tuple #[.agg #[I (((Wd l t).1).now),Sl a9 ((((Wd l t).1).way).length) c8],I ((Wd l t).2)]),(9,.agg #[I (((Wd l t).1).now),Sl a9 ((((Wd l t).1).way).length) c8]),(10,I ((Wd l t).2))] (JF [0,1,2,3,4,5,6] [(8,0),(9,0),(10,0)] [] [12] (Ha _) (Kf ?_ KY))
 refine Jz 12 [(5,Pt b7 0),(37,.agg #[I (((Wd l t).1).now),Sl a9 ((((Wd l t).1).way).length) c8])] (fun X=>?_)
 exact KC 0 ([Sg b7 0 [I (((Wd l t).1).now),Sl a9 ((((Wd l t).1).way).length) c8]]::[]::[Sg b1 0 (Ky l a1 c1 a2 c2 a3 c3)]::[Sg b 0 (Ke t a_1 c_1 a_5 c_5 a_6 c_6 a_7 c_7 a_8 c_8 a_10 c_10 a_12 c_12 a_13 c_13)]::r_7::r_8::r_12::r_13::Lr) (J6 [(13,I ((Wd l t).2))] (Kl [0,1,2,3,4,5,6,8,9] [(10,0),(13,0)] [] [(0,Pt b 0),(5,Pt b7 0),(6,I ((Wd l t).2))] (Ha _) (QW (b7,a9,c8,G6) ⟨(Ja hl5 hl6),w13,hs10⟩)))
 obtain ⟨b6,a8,c7,G4⟩:=q_
 obtain ⟨hle2,hj3,hj4⟩:=hs
 dsimp only at hle2 hj3 hj4
 dsimp only
 refine Jg [0,0] [(40,Bo (decide ((Wd l t).2=0)))] (Jl (decide ((Wd l t).2=0)) (fun h3=>?_) (fun h3=>?_))
 refine Jd (JW [0,2,0,0,0,9] [] ([Sg b6 0 [I (((Wd l t).1).now),Sl a8 ((((Wd l t).1).way).length) c7]]::[]::[Sg b1 0 (Ky l a1 c1 a2 c2 a3 c3)]::[Sg b 0 (Ke (⟨(⟨t.town.clerk,t.town.owners,t.town.polls,(Wd l t).1⟩:Wl),t.reach,t.fates,t.events⟩:JI) a_1 c_1 a_5 c_5 a_6 c_6 a_7 c_7 a_8 c_8 a8 c7 a_12 c_12 a_13 c_13)]::r_7::r_8::r_12::r_13::Lr) (Je (Jk 7 (Jk 7 (Jk 7 (Jk 7 (Jk 7 ?_)))))))
 have hf3:Wo t l=(⟨(⟨t.town.clerk,t.town.owners,t.town.polls,((Wd l t).1)⟩:Wl),t.reach,t.fates,t.events⟩:JI):=by
  (rw [JoL (by omega),if_pos ‹_›];done)
 refine ZW [] [] (KB (Lr:=Lr) [[Sg b 0 (Ke (⟨(⟨t.town.clerk,t.town.owners,t.town.polls,(Wd l t).1⟩:Wl),t.reach,t.fates,t.events⟩:JI) a_1 c_1 a_5 c_5 a_6 c_6 a_7 c_7 a_8 c_8 a8 c7 a_12 c_12 a_13 c_13)],r_7,r_8,r_12,r_13] hle2 ?_)
 rw [hf3];try dsimp only
 exact ⟨a_1,c_1,a_5,c_5,a_6,c_6,a_7,c_7,a_8,c_8,a8,c7,a_12,c_12,a_13,c_13,r_7,r_8,r_12,r_13,rfl,h_0,(h_1.mono hle2),h_2,h_3,h_4,(h_5.mono hle2),(h_6.mono hle2),(h_7.mono hle2),(h_8.mono hle2),hj3,hj4,h_11,(h_12.mono hle2),(h_13.mono hle2),rfl⟩
 refine Jq (Jk 7 (Jk 7 (Jk 7 (Jk 7 (Jk 7 ?_)))))
 have hf4:Wo t l=t:=by
  (rw [JoL (by omega),if_neg ‹_›];done)
 refine ZW [] [] (KB (Lr:=Lr) [[Sg b 0 (Ke t a_1 c_1 a_5 c_5 a_6 c_6 a_7 c_7 a_8 c_8 a_10 c_10 a_12 c_12 a_13 c_13)],r_7,r_8,r_12,r_13] hle2 ?_)
 rw [hf4];try dsimp only
 exact ⟨a_1,c_1,a_5,c_5,a_6,c_6,a_7,c_7,a_8,c_8,a_10,c_10,a_12,c_12,a_13,c_13,r_7,r_8,r_12,r_13,rfl,h_0,(h_1.mono hle2),h_2,h_3,h_4,(h_5.mono hle2),(h_6.mono hle2),(h_7.mono hle2),(h_8.mono hle2),h_9,(h_10.mono hle2),h_11,(h_12.mono hle2),(h_13.mono hle2),rfl⟩
set_option maxRecDepth 20000 in
abbrev Kr (d:K6) (kn1:Nat) (t:JI):=JQ (Js t (kn1:Int)) d.value
abbrev Qw (d:K6) (kn1:Nat) (t:JI):=KE t.town.clerk ((Kr d kn1 t).2.1)
abbrev YN (d:K6) (kn1:Nat):=(⟨d.kind,(kn1:Int),d.value,d.fates,d.letter⟩:K6)
abbrev Zy (d:K6) (kn1:Nat) (t:JI):=Jkl (Kr d kn1 t).2.1
abbrev JkZ (d:K6) (kn1:Nat) (t:JI):=(⟨(⟨((Qw d kn1 t).1),t.town.owners.set kn1 ((Kr d kn1 t).1),t.town.polls,t.town.net⟩:Wl),t.reach,t.fates,t.events⟩:JI)
abbrev Vu (d:K6) (kn1:Nat) (t:JI):=JiS (Kr d kn1 t).2.1
set_option maxHeartbeats 1600000 in
theorem Jm5 (G:J5) (b:Nat) (t:JI) (a_1:Ba) (c_1:Nat) (a_5:Ba) (c_5:Nat) (a_6:Ba) (c_6:Nat) (a_7:Ba) (c_7:Nat) (a_8:Ba) (c_8:Nat) (a_10:Ba) (c_10:Nat) (a_12:Ba) (c_12:Nat) (a_13:Ba) (c_13:Nat) (r_7:Bg) (r_8:Bg) (r_12:Bg) (r_13:Bg) (h_0:rI t.town.clerk.queue.most) (h_1:RS Q6 G a_1 c_1 t.town.clerk.queue.wait) (h_2:rI t.town.clerk.batch) (h_3:rI t.town.clerk.every) (h_4:rI t.town.clerk.now) (h_5:RS KO G a_5 c_5 t.town.clerk.heads) (h_6:RS QA G a_6 c_6 t.town.clerk.books) (h_7:JR Q9 G a_7 c_7 t.town.owners r_7) (h_8:JR WK G a_8 c_8 t.town.polls r_8) (h_9:rI t.town.net.now) (h_10:RS Kn G a_10 c_10 t.town.net.way) (h_11:rI t.reach) (h_12:JR VG G a_12 c_12 t.fates r_12) (h_13:JR Wn G a_13 c_13 t.events r_13) (vs_d:Bv) (d:K6) (h_d:Wh.R G vs_d d) (hev:t.events.length≤1000000):JcH 60 #[Pt b 0,.agg vs_d.toArray] G [[Sg b 0 [I t.town.clerk.queue.most,Sl a_1 t.town.clerk.queue.wait.length c_1,I t.town.clerk.batch,I t.town.clerk.every,I t.town.clerk.now,Sl a_5 t.town.clerk.heads.length c_5,Sl a_6 t.town.clerk.books.length c_6,Sl a_7 t.town.owners.length c_7,Sl a_8 t.town.polls.length c_8,I t.town.net.now,Sl a_10 t.town.net.way.length c_10,I t.reach,Sl a_12 t.fates.length c_12,Sl a_13 t.events.length c_13]],r_7,r_8,r_12,r_13] (fun u G' L'=>∃ (a_z1:Ba) (c_z1:Nat) (a_z5:Ba) (c_z5:Nat) (a_z6:Ba) (c_z6:Nat) (a_z7:Ba) (c_z7:Nat) (a_z8:Ba) (c_z8:Nat) (a_z10:Ba) (c_z10:Nat) (a_z12:Ba) (c_z12:Nat) (a_z13:Ba) (c_z13:Nat) (r_z7:Bg) (r_z8:Bg) (r_z12:Bg) (r_z13:Bg),u=.tuple #[]∧(rI ((Wk t d).town.clerk.queue.most))∧(RS Q6 G' a_z1 c_z1 ((Wk t d).town.clerk.queue.wait))∧(rI ((Wk t d).town.clerk.batch))∧(rI ((Wk t d).town.clerk.every))∧(rI ((Wk t d).town.clerk.now))∧(RS KO G' a_z5 c_z5 ((Wk t d).town.clerk.heads))∧(RS QA G' a_z6 c_z6 ((Wk t d).town.clerk.books))∧(JR Q9 G' a_z7 c_z7 ((Wk t d).town.owners) r_z7)∧(JR WK G' a_z8 c_z8 ((Wk t d).town.polls) r_z8)∧(rI ((Wk t d).town.net.now))∧(RS Kn G' a_z10 c_z10 ((Wk t d).town.net.way))∧(rI ((Wk t d).reach))∧(JR VG G' a_z12 c_z12 ((Wk t d).fates) r_z12)∧(JR Wn G' a_z13 c_z13 ((Wk t d).events) r_z13)∧L'=[[Sg b 0 [I ((Wk t d).town.clerk.queue.most),Sl a_z1 (((Wk t d).town.clerk.queue.wait).length) c_z1,I ((Wk t d).town.clerk.batch),I ((Wk t d).town.clerk.every),I ((Wk t d).town.clerk.now),Sl a_z5 (((Wk t d).town.clerk.heads).length) c_z5,Sl a_z6 (((Wk t d).town.clerk.books).length) c_z6,Sl a_z7 (((Wk t d).town.owners).length) c_z7,Sl a_z8 (((Wk t d).town.polls).length) c_z8,I ((Wk t d).town.net.now),Sl a_z10 (((Wk t d).town.net.way).length) c_z10,I ((Wk t d).reach),Sl a_z12 (((Wk t d).fates).length) c_z12,Sl a_z13 (((Wk t d).events).length) c_z13]],r_z7,r_z8,r_z12,r_z13]):=by
 obtain ⟨a1,c1,a2,c2,a3,c3,a4,c4,rfl,_,_,w3,_,_,_,_,_,_,_,_,_,_,_,_,_⟩:=h_d
 intro Lr
 refine JP Tryz.func60 84 [(0,Pt b 0),(1,(JfQ d a1 c1 a2 c2 a3 c3 a4 c4))] rfl (fun w0 G0=>?_)
 show TC _ _ _ _ _ ([Sg b 0 (Ke t a_1 c_1 a_5 c_5 a_6 c_6 a_7 c_7 a_8 c_8 a_10 c_10 a_12 c_12 a_13 c_13)]::r_7::r_8::r_12::r_13::Lr)
 refine Jf (Jd (Jv 3 #[I d.kind,I d.who,Sr d.value,Sl a1 d.fates.length c1,I d.letter.to_,I d.letter.from_,I d.letter.since,I d.letter.due,Sl a2 d.letter.heads.length c2,I d.letter.reply.head.epoch,U d.letter.reply.head.root,U d.letter.reply.head.prev,I d.letter.reply.head.at_,Sr d.letter.reply.proof.name,Sl a3 d.letter.reply.proof.entries.length c3,Sl a4 d.letter.reply.proof.sides.length c4] 53 (fun b1=>Je (Jc (Jf (Jf (Jd (Jb [0,0,2] [(10,Pt b 0),(12,I d.who)] (Jw 5 (Jw 5 (Jw 5 (Jw 5 (Jw 5 (Qi (Ls:=[[Sg b 0 (Ke t a_1 c_1 a_5 c_5 a_6 c_6 a_7 c_7 a_8 c_8 a_10 c_10 a_12 c_12 a_13 c_13)],r_7,r_8,r_12,r_13]) (Lr:=([Sg b1 0 (W7 d a1 c1 a2 c2 a3 c3 a4 c4)]::Lr)) 13 (Jch G b t a_1 c_1 a_5 c_5 a_6 c_6 a_7 c_7 a_8 c_8 a_10 c_10 a_12 c_12 a_13 c_13 r_7 r_8 r_12 r_13 h_0 h_1 h_2 h_3 h_4 h_5 h_6 h_7 h_8 h_9 h_10 h_11 h_12 h_13 d.who) (fun v G1 L1 hl1 hp=>?_)))))))))))))))
 obtain ⟨a5,c5,a6,c6,a7,c7,a8,c8,a9,c9,a10,c10,a11,c11,a12,c12,r1,r2,r3,r4,rfl,w13,hs5,w14,w15,w16,hs6,hs7,hr1,hr2,w17,hs8,w18,hr3,hr4,rfl⟩:=hp
 refine Jb [0] [(14,Bo (!(Zi t d.who)))] (Je (Jc (Jl (!(Zi t d.who)) (fun h1=>?_) (fun h1=>?_))))
 refine Jn (Jj (Jk 4 (Jk 4 (Jk 4 (Jk 4 (Jk 4 ?_))))))
 have hf1:Wk t d=t:=by
  exact tWant0 ‹_›
 refine Jo [] [] (KB (Lr:=Lr) [[Sg b 0 (Ke t a5 c5 a6 c6 a7 c7 a8 c8 a9 c9 a10 c10 a11 c11 a12 c12)],r1,r2,r3,r4] hl1 ?_)
 rw [hf1];try dsimp only
 exact ⟨a5,c5,a6,c6,a7,c7,a8,c8,a9,c9,a10,c10,a11,c11,a12,c12,r1,r2,r3,r4,rfl,w13,hs5,w14,w15,w16,hs6,hs7,hr1,hr2,w17,hs8,w18,hr3,hr4,rfl⟩
 refine Jq (Jc ?_)
 have hown:=JaT.1 (show Zi t d.who=true by assumption)
 obtain ⟨kn1,hkn1⟩:∃ k_:Nat,d.who=(k_:Int):=⟨(d.who).toNat,by omega⟩
 have e1:d.who=(kn1:Int):=hkn1
 refine JcY (L':=([Sg b 0 [I t.town.clerk.queue.most,Sl a5 t.town.clerk.queue.wait.length c5,I t.town.clerk.batch,I t.town.clerk.every,I t.town.clerk.now,Sl a6 t.town.clerk.heads.length c6,Sl a7 t.town.clerk.books.length c7,Sl a8 t.town.owners.length c8,Sl a9 t.town.polls.length c9,I t.town.net.now,Sl a10 t.town.net.way.length c10,I t.reach,Sl a11 t.fates.length c11,Sl a12 t.events.length c12]]::r1::r2::r3::r4::[Sg b1 0 [I d.kind,I (kn1:Int),Sr d.value,Sl a1 d.fates.length c1,I d.letter.to_,I d.letter.from_,I d.letter.since,I d.letter.due,Sl a2 d.letter.heads.length c2,I d.letter.reply.head.epoch,U d.letter.reply.head.root,U d.letter.reply.head.prev,I d.letter.reply.head.at_,Sr d.letter.reply.proof.name,Sl a3 d.letter.reply.proof.entries.length c3,Sl a4 d.letter.reply.proof.sides.length c4]]::Lr)) (by (simp only [JiS,KW,W7,KU,Ke,Jkl,QG,JfQ,KF,e1];first | done | rfl)) (Jf ?_)
 have hx1:(t.town.owners)[kn1]? = some (Js t (kn1:Int)):=Y3 (by omega)
 obtain ⟨b2,o1,_,_,⟨a13,c13,rfl,w19,w20,w21,w22,w23,w24,hs9,w25⟩,ha1,hre1,hc1⟩:=JR.ix hr1 hx1
 refine Kt [] (Wm [(0,Pt b 0),(1,Pt b 0),(2,Pt b 0),(3,Pt b 7),(4,Sl a8 t.town.owners.length c8),(5,Pt b1 1),(6,I (kn1:Int)),(7,Pt b2 (o1+kn1*8)),(8,Pt b2 (o1+kn1*8+6)),(9,Sl a13 (((Js t (kn1:Int)).wanted).length) c13),(10,I ((((Js t (kn1:Int)).wanted).length:Nat):Int)),(11,I ((((Js t (kn1:Int)).wanted).length:Nat):Int))] (Kl [] [(0,0),(1,0),(2,0),(3,0),(4,2),(5,0),(6,12),(8,0),(10,0),(11,0)] [7,9] [(0,Pt b 0),(3,Pt b1 0),(4,I ((((Js t (kn1:Int)).wanted).length:Nat):Int))] (Kf ?_ (Kf ?_ KY)) ?_))
 refine Jr 7 22 (Pt b2 (o1+kn1*8)) [(19,Sl a8 t.town.owners.length c8),(21,I (kn1:Int))] (fun X=>?_)
 exact Qs (b:=b2) (off:=o1) (len:=t.town.owners.length) (cap:=c8) (ik:=.i64) 22 76 8 kn1 ha1 J4 Jp
 refine Jr 9 24 (Sl a13 (((Js t (kn1:Int)).wanted).length) c13) [(23,Pt b2 (o1+kn1*8+6))] (fun X=>?_)
 exact W4 (off:=o1) (p:=kn1*8) (cs:=(KU (Js t (kn1:Int)) a13 c13)) 24 22 1 6 (Sl a13 (((Js t (kn1:Int)).wanted).length) c13) hre1 hc1 Jp
 refine Jc ?_
 refine Ye (σ:=Nat×Nat×Ba×Nat×J5) (fun q_=>(J5.le G1 q_.2.2.2.2)∧((((Kr d kn1 t).2.1).name).length≤140737488351232)∧((((Kr d kn1 t).2.1).value).length≤140737488351232)∧(rU (((Kr d kn1 t).2.1).n))∧(rU (((Kr d kn1 t).2.1).tag))∧((((Kr d kn1 t).1).name).length≤140737488351232)∧(rU (((Kr d kn1 t).1).key))∧(rI (((Kr d kn1 t).1).head.epoch))∧(rU (((Kr d kn1 t).1).head.root))∧(rU (((Kr d kn1 t).1).head.prev))∧(rI (((Kr d kn1 t).1).head.at_))∧(RS ES q_.2.2.2.2 q_.2.2.1 q_.2.2.2.1 (((Kr d kn1 t).1).wanted))∧(rI (((Kr d kn1 t).1).had))) (fun q_=>[(0,Pt b 0),(3,Pt b1 0),(4,I ((((Js t (kn1:Int)).wanted).length:Nat):Int)),(5,Pt q_.1 0),(6,Pt q_.2.1 0),(7,I ((Kr d kn1 t).2.2))]) (fun q_=>q_.2.2.2.2) (fun q_=>([Sg q_.2.1 0 (Vu d kn1 t)]::[Sg q_.1 0 (KU (Kr d kn1 t).1 q_.2.2.1 q_.2.2.2.1)]::[Sg b 0 (Ke t a5 c5 a6 c6 a7 c7 a8 c8 a9 c9 a10 c10 a11 c11 a12 c12)]::r1::r2::r3::r4::[Sg b1 0 (W7 (YN d kn1) a1 c1 a2 c2 a3 c3 a4 c4)]::Lr)) ?_ (fun q_ hs=>?_)
 refine Kt [11,16,17,18,19] (Wm [(0,Pt b 0),(1,Pt b 0),(2,Pt b 0),(3,Pt b 7),(4,Sl a8 t.town.owners.length c8),(5,Pt b1 1),(6,I (kn1:Int)),(7,Pt b2 (o1+kn1*8)),(8,(KF (Js t (kn1:Int)) a13 c13)),(9,Pt b1 2),(10,Sr d.value)] (JF [] [(0,0),(1,0),(2,0),(3,0),(4,2),(5,0),(6,12),(9,0),(10,12)] [7,8] [11,16,17] (Kf ?_ (Kf ?_ KY)) (Kf ?_ (Kf ?_ (Kf ?_ KY)))))
 refine Jr 7 34 (Pt b2 (o1+kn1*8)) [(31,Sl a8 t.town.owners.length c8),(33,I (kn1:Int))] (fun X=>?_)
 exact Qs (b:=b2) (off:=o1) (len:=t.town.owners.length) (cap:=c8) (ik:=.i64) 34 76 8 kn1 ha1 J4 Jp
 refine Jr 8 35 (KF (Js t (kn1:Int)) a13 c13) [(34,Pt b2 (o1+kn1*8))] (fun X=>?_)
 exact W4 (off:=o1) (p:=kn1*8) (cs:=(KU (Js t (kn1:Int)) a13 c13)) 35 76 1 0 (KF (Js t (kn1:Int)) a13 c13) hre1 hc1 Jp
 refine Jz 11 [(35,(KF (Js t (kn1:Int)) a13 c13)),(37,Sr d.value)] (fun X=>?_)
 refine JN 38 (Vk G1 (KU (Js t (kn1:Int)) a13 c13) (Js t (kn1:Int)) (⟨a13,c13,rfl,w19,w20,w21,w22,w23,w24,hs9,w25⟩) d.value w3) (fun v G2 L1 hl2 hp=>?_)
 obtain ⟨a14,c14,rfl,w26,w27,w28,w29,w30,w31,hs10,w32,w33,w34,w35,w36,rfl⟩:=hp
 refine JA [(11,.tuple #[(KF (Kr d kn1 t).1 a14 c14),(Zy d kn1 t),I ((Kr d kn1 t).2.2)]),(12,.tuple #[(KF (Kr d kn1 t).1 a14 c14),(Zy d kn1 t),I ((Kr d kn1 t).2.2)]),(13,(KF (Kr d kn1 t).1 a14 c14)),(14,(Zy d kn1 t)),(15,I ((Kr d kn1 t).2.2))] (JF [0,1,2,3,4,5,6,7,8,9,10] [(12,0),(13,0),(14,0),(15,0)] [] [16,17] (Ha _) (Kf ?_ (Kf ?_ KY)))
 refine Jz 16 [] (fun X=>?_)
 refine Jv 5 #[Sr ([]),U 0,I 0,U 0,U 0,I 0,Sl none 0 0,I 0] 76 (fun b3=>JA [(16,Pt b3 0)] (JF [0,1,2,3,4,5,6,7,8,9,10] [(12,0),(13,0),(14,0),(15,0)] [] [17] (Ha _) (Kf ?_ KY)))
 refine Jz 17 [] (fun X=>?_)
 refine Jv 6 #[Sr ([]),Sr ([]),U 0,U 0] 182 (fun b4=>JA [(17,Pt b4 0)] (JF [0,1,2,3,4,5,6,7,8,9,10] [(12,0),(13,0),(14,0),(15,0)] [] [18] (Ha _) (Kf ?_ KY)))
 refine Jz 18 [(5,Pt b3 0),(39,(KF (Kr d kn1 t).1 a14 c14))] (fun X=>?_)
 refine KC 1 ([Sg b4 0 [Sr ([]),Sr ([]),U 0,U 0]]::[Sg b3 0 (KU (Kr d kn1 t).1 a14 c14)]::[Sg b 0 (Ke t a5 c5 a6 c6 a7 c7 a8 c8 a9 c9 a10 c10 a11 c11 a12 c12)]::r1::r2::r3::r4::[Sg b1 0 (W7 (YN d kn1) a1 c1 a2 c2 a3 c3 a4 c4)]::Lr) (J6 [] (JF [0,1,2,3,4,5,6,7,8,9,10,12,13] [(14,0),(15,0)] [] [19] (Ha _) (Kf ?_ KY)))
 refine Jz 19 [(6,Pt b4 0),(40,(Zy d kn1 t))] (fun X=>?_)
 exact KC 0 ([Sg b4 0 (Vu d kn1 t)]::[Sg b3 0 (KU (Kr d kn1 t).1 a14 c14)]::[Sg b 0 (Ke t a5 c5 a6 c6 a7 c7 a8 c8 a9 c9 a10 c10 a11 c11 a12 c12)]::r1::r2::r3::r4::[Sg b1 0 (W7 (YN d kn1) a1 c1 a2 c2 a3 c3 a4 c4)]::Lr) (J6 [(20,I ((Kr d kn1 t).2.2))] (Kl [0,1,2,3,4,5,6,7,8,9,10,12,13,14] [(15,0),(20,0)] [] [(0,Pt b 0),(3,Pt b1 0),(4,I ((((Js t (kn1:Int)).wanted).length:Nat):Int)),(5,Pt b3 0),(6,Pt b4 0),(7,I ((Kr d kn1 t).2.2))] (Ha _) (QW (b3,b4,a14,c14,G2) ⟨hl2,w33,w34,w35,w36,w26,w27,w28,w29,w30,w31,hs10,w32⟩)))
 refine Jz 17 [] (fun X=>?_)
 refine Jv 6 #[Sr ([]),Sr ([]),U 0,U 0] 182 (fun b5=>JA [(17,Pt b5 0)] (JF [0,1,2,3,4,5,6,7,8,9,10] [(12,0),(13,0),(14,0),(15,0)] [] [16] (Ha _) (Kf ?_ KY)))
 refine Jz 16 [] (fun X=>?_)
 refine Jv 5 #[Sr ([]),U 0,I 0,U 0,U 0,I 0,Sl none 0 0,I 0] 76 (fun b6=>JA [(16,Pt b6 0)] (JF [0,1,2,3,4,5,6,7,8,9,10] [(12,0),(13,0),(14,0),(15,0)] [] [18] (Ha _) (Kf ?_ KY)))
 refine Jz 18 [(5,Pt b6 0),(39,(KF (Kr d kn1 t).1 a14 c14))] (fun X=>?_)
 refine KC 0 ([Sg b6 0 (KU (Kr d kn1 t).1 a14 c14)]::[Sg b5 0 [Sr ([]),Sr ([]),U 0,U 0]]::[Sg b 0 (Ke t a5 c5 a6 c6 a7 c7 a8 c8 a9 c9 a10 c10 a11 c11 a12 c12)]::r1::r2::r3::r4::[Sg b1 0 (W7 (YN d kn1) a1 c1 a2 c2 a3 c3 a4 c4)]::Lr) (J6 [] (JF [0,1,2,3,4,5,6,7,8,9,10,12,13] [(14,0),(15,0)] [] [19] (Ha _) (Kf ?_ KY)))
 refine Jz 19 [(6,Pt b5 0),(40,(Zy d kn1 t))] (fun X=>?_)
 refine KC 1 ([Sg b6 0 (KU (Kr d kn1 t).1 a14 c14)]::[Sg b5 0 (Vu d kn1 t)]::[Sg b 0 (Ke t a5 c5 a6 c6 a7 c7 a8 c8 a9 c9 a10 c10 a11 c11 a12 c12)]::r1::r2::r3::r4::[Sg b1 0 (W7 (YN d kn1) a1 c1 a2 c2 a3 c3 a4 c4)]::Lr) (J6 [(20,I ((Kr d kn1 t).2.2))] (Kl [0,1,2,3,4,5,6,7,8,9,10,12,13,14] [(15,0),(20,0)] [] [(0,Pt b 0),(3,Pt b1 0),(4,I ((((Js t (kn1:Int)).wanted).length:Nat):Int)),(5,Pt b6 0),(6,Pt b5 0),(7,I ((Kr d kn1 t).2.2))] (Ha _) (Jk 7 (Jk 7 (Jk 7 (Jk 7 (Jk 7 (Jk 7 (Jk 6 (Jk 7 ?_))))))))))
 exact QW (b6,b5,a14,c14,G2) ⟨hl2,w33,w34,w35,w36,w26,w27,w28,w29,w30,w31,hs10,w32⟩
 refine Jz 16 [] (fun X=>?_)
 refine Jv 5 #[Sr ([]),U 0,I 0,U 0,U 0,I 0,Sl none 0 0,I 0] 76 (fun b7=>JA [(16,Pt b7 0)] (JF [] [(0,0),(1,0),(2,0),(3,0),(4,4),(5,0),(6,14),(9,0),(10,14)] [7,8] [11,17] (Kf ?_ (Kf ?_ KY)) (Kf ?_ (Kf ?_ KY))))
 refine Jr 7 34 (Pt b2 (o1+kn1*8)) [(31,Sl a8 t.town.owners.length c8),(33,I (kn1:Int))] (fun X=>?_)
 exact Qs (b:=b2) (off:=o1) (len:=t.town.owners.length) (cap:=c8) (ik:=.i64) 34 76 8 kn1 ha1 J4 Jp
 refine Jr 8 35 (KF (Js t (kn1:Int)) a13 c13) [(34,Pt b2 (o1+kn1*8))] (fun X=>?_)
 exact W4 (off:=o1) (p:=kn1*8) (cs:=(KU (Js t (kn1:Int)) a13 c13)) 35 76 2 0 (KF (Js t (kn1:Int)) a13 c13) hre1 hc1 Jp
 refine Jz 11 [(35,(KF (Js t (kn1:Int)) a13 c13)),(37,Sr d.value)] (fun X=>?_)
 refine JN 38 (Vk G1 (KU (Js t (kn1:Int)) a13 c13) (Js t (kn1:Int)) (⟨a13,c13,rfl,w19,w20,w21,w22,w23,w24,hs9,w25⟩) d.value w3) (fun v G3 L1 hl3 hp=>?_)
 obtain ⟨a15,c15,rfl,w37,w38,w39,w40,w41,w42,hs11,w43,w44,w45,w46,w47,rfl⟩:=hp
 refine JA [(11,.tuple #[(KF (Kr d kn1 t).1 a15 c15),(Zy d kn1 t),I ((Kr d kn1 t).2.2)]),(12,.tuple #[(KF (Kr d kn1 t).1 a15 c15),(Zy d kn1 t),I ((Kr d kn1 t).2.2)]),(13,(KF (Kr d kn1 t).1 a15 c15)),(14,(Zy d kn1 t)),(15,I ((Kr d kn1 t).2.2))] (JF [0,1,2,3,4,5,6,7,8,9,10] [(12,0),(13,0),(14,0),(15,0)] [] [17] (Ha _) (Kf ?_ KY))
 refine Jz 17 [] (fun X=>?_)
 refine Jv 6 #[Sr ([]),Sr ([]),U 0,U 0] 182 (fun b8=>JA [(17,Pt b8 0)] (JF [0,1,2,3,4,5,6,7,8,9,10] [(12,0),(13,0),(14,0),(15,0)] [] [18] (Ha _) (Kf ?_ KY)))
 refine Jz 18 [(5,Pt b7 0),(39,(KF (Kr d kn1 t).1 a15 c15))] (fun X=>?_)
 refine KC 1 ([Sg b8 0 [Sr ([]),Sr ([]),U 0,U 0]]::[Sg b7 0 (KU (Kr d kn1 t).1 a15 c15)]::[Sg b 0 (Ke t a5 c5 a6 c6 a7 c7 a8 c8 a9 c9 a10 c10 a11 c11 a12 c12)]::r1::r2::r3::r4::[Sg b1 0 (W7 (YN d kn1) a1 c1 a2 c2 a3 c3 a4 c4)]::Lr) (J6 [] (JF [0,1,2,3,4,5,6,7,8,9,10,12,13] [(14,0),(15,0)] [] [19] (Ha _) (Kf ?_ KY)))
 refine Jz 19 [(6,Pt b8 0),(40,(Zy d kn1 t))] (fun X=>?_)
 exact KC 0 ([Sg b8 0 (Vu d kn1 t)]::[Sg b7 0 (KU (Kr d kn1 t).1 a15 c15)]::[Sg b 0 (Ke t a5 c5 a6 c6 a7 c7 a8 c8 a9 c9 a10 c10 a11 c11 a12 c12)]::r1::r2::r3::r4::[Sg b1 0 (W7 (YN d kn1) a1 c1 a2 c2 a3 c3 a4 c4)]::Lr) (J6 [(20,I ((Kr d kn1 t).2.2))] (Kl [0,1,2,3,4,5,6,7,8,9,10,12,13,14] [(15,0),(20,0)] [] [(0,Pt b 0),(3,Pt b1 0),(4,I ((((Js t (kn1:Int)).wanted).length:Nat):Int)),(5,Pt b7 0),(6,Pt b8 0),(7,I ((Kr d kn1 t).2.2))] (Ha _) (QW (b7,b8,a15,c15,G3) ⟨hl3,w44,w45,w46,w47,w37,w38,w39,w40,w41,w42,hs11,w43⟩)))
 refine Jz 17 [] (fun X=>?_)
 refine Jv 6 #[Sr ([]),Sr ([]),U 0,U 0] 182 (fun b9=>JA [(17,Pt b9 0)] (JF [] [(0,0),(1,0),(2,0),(3,0),(4,6),(5,0),(6,16),(9,0),(10,16)] [7,8] [11] (Kf ?_ (Kf ?_ KY)) (Kf ?_ KY)))
 refine Jr 7 34 (Pt b2 (o1+kn1*8)) [(31,Sl a8 t.town.owners.length c8),(33,I (kn1:Int))] (fun X=>?_)
 exact Qs (b:=b2) (off:=o1) (len:=t.town.owners.length) (cap:=c8) (ik:=.i64) 34 76 8 kn1 ha1 J4 Jp
 refine Jr 8 35 (KF (Js t (kn1:Int)) a13 c13) [(34,Pt b2 (o1+kn1*8))] (fun X=>?_)
 exact W4 (off:=o1) (p:=kn1*8) (cs:=(KU (Js t (kn1:Int)) a13 c13)) 35 76 3 0 (KF (Js t (kn1:Int)) a13 c13) hre1 hc1 Jp
 refine Jz 11 [(35,(KF (Js t (kn1:Int)) a13 c13)),(37,Sr d.value)] (fun X=>?_)
 refine JN 38 (Vk G1 (KU (Js t (kn1:Int)) a13 c13) (Js t (kn1:Int)) (⟨a13,c13,rfl,w19,w20,w21,w22,w23,w24,hs9,w25⟩) d.value w3) (fun v G4 L1 hl4 hp=>?_)
 obtain ⟨a16,c16,rfl,w48,w49,w50,w51,w52,w53,hs12,w54,w55,w56,w57,w58,rfl⟩:=hp
 refine JA [(11,.tuple #[(KF (Kr d kn1 t).1 a16 c16),(Zy d kn1 t),I ((Kr d kn1 t).2.2)]),(12,.tuple #[(KF (Kr d kn1 t).1 a16 c16),(Zy d kn1 t),I ((Kr d kn1 t).2.2)]),(13,(KF (Kr d kn1 t).1 a16 c16)),(14,(Zy d kn1 t)),(15,I ((Kr d kn1 t).2.2))] (JF [0,1,2,3,4,5,6,7,8,9,10] [(12,0),(13,0),(14,0),(15,0)] [] [18] (Ha _) (Kf ?_ KY))
 refine Jz 18 [(5,Pt b7 0),(39,(KF (Kr d kn1 t).1 a16 c16))] (fun X=>?_)
 refine KC 1 ([Sg b9 0 [Sr ([]),Sr ([]),U 0,U 0]]::[Sg b7 0 (KU (Kr d kn1 t).1 a16 c16)]::[Sg b 0 (Ke t a5 c5 a6 c6 a7 c7 a8 c8 a9 c9 a10 c10 a11 c11 a12 c12)]::r1::r2::r3::r4::[Sg b1 0 (W7 (YN d kn1) a1 c1 a2 c2 a3 c3 a4 c4)]::Lr) (J6 [] (JF [0,1,2,3,4,5,6,7,8,9,10,12,13] [(14,0),(15,0)] [] [19] (Ha _) (Kf ?_ KY)))
 refine Jz 19 [(6,Pt b9 0),(40,(Zy d kn1 t))] (fun X=>?_)
 exact KC 0 ([Sg b9 0 (Vu d kn1 t)]::[Sg b7 0 (KU (Kr d kn1 t).1 a16 c16)]::[Sg b 0 (Ke t a5 c5 a6 c6 a7 c7 a8 c8 a9 c9 a10 c10 a11 c11 a12 c12)]::r1::r2::r3::r4::[Sg b1 0 (W7 (YN d kn1) a1 c1 a2 c2 a3 c3 a4 c4)]::Lr) (J6 [(20,I ((Kr d kn1 t).2.2))] (Kl [0,1,2,3,4,5,6,7,8,9,10,12,13,14] [(15,0),(20,0)] [] [(0,Pt b 0),(3,Pt b1 0),(4,I ((((Js t (kn1:Int)).wanted).length:Nat):Int)),(5,Pt b7 0),(6,Pt b9 0),(7,I ((Kr d kn1 t).2.2))] (Ha _) (QW (b7,b9,a16,c16,G4) ⟨hl4,w55,w56,w57,w58,w48,w49,w50,w51,w52,w53,hs12,w54⟩)))
 refine Jz 17 [] (fun X=>?_)
 refine Jv 6 #[Sr ([]),Sr ([]),U 0,U 0] 182 (fun b10=>JA [(17,Pt b10 0)] (JF [] [(0,0),(1,0),(2,0),(3,0),(4,4),(5,0),(6,14),(9,0),(10,14)] [7,8] [11,16] (Kf ?_ (Kf ?_ KY)) (Kf ?_ (Kf ?_ KY))))
 refine Jr 7 34 (Pt b2 (o1+kn1*8)) [(31,Sl a8 t.town.owners.length c8),(33,I (kn1:Int))] (fun X=>?_)
 exact Qs (b:=b2) (off:=o1) (len:=t.town.owners.length) (cap:=c8) (ik:=.i64) 34 76 8 kn1 ha1 J4 Jp
 refine Jr 8 35 (KF (Js t (kn1:Int)) a13 c13) [(34,Pt b2 (o1+kn1*8))] (fun X=>?_)
 exact W4 (off:=o1) (p:=kn1*8) (cs:=(KU (Js t (kn1:Int)) a13 c13)) 35 76 2 0 (KF (Js t (kn1:Int)) a13 c13) hre1 hc1 Jp
 refine Jz 11 [(35,(KF (Js t (kn1:Int)) a13 c13)),(37,Sr d.value)] (fun X=>?_)
 refine JN 38 (Vk G1 (KU (Js t (kn1:Int)) a13 c13) (Js t (kn1:Int)) (⟨a13,c13,rfl,w19,w20,w21,w22,w23,w24,hs9,w25⟩) d.value w3) (fun v G5 L1 hl5 hp=>?_)
 obtain ⟨a17,c17,rfl,w59,w60,w61,w62,w63,w64,hs13,w65,w66,w67,w68,w69,rfl⟩:=hp
 refine JA [(11,.tuple #[(KF (Kr d kn1 t).1 a17 c17),(Zy d kn1 t),I ((Kr d kn1 t).2.2)]),(12,.tuple #[(KF (Kr d kn1 t).1 a17 c17),(Zy d kn1 t),I ((Kr d kn1 t).2.2)]),(13,(KF (Kr d kn1 t).1 a17 c17)),(14,(Zy d kn1 t)),(15,I ((Kr d kn1 t).2.2))] (JF [0,1,2,3,4,5,6,7,8,9,10] [(12,0),(13,0),(14,0),(15,0)] [] [16] (Ha _) (Kf ?_ KY))
 refine Jz 16 [] (fun X=>?_)
 refine Jv 5 #[Sr ([]),U 0,I 0,U 0,U 0,I 0,Sl none 0 0,I 0] 76 (fun b11=>JA [(16,Pt b11 0)] (JF [0,1,2,3,4,5,6,7,8,9,10] [(12,0),(13,0),(14,0),(15,0)] [] [18] (Ha _) (Kf ?_ KY)))
 refine Jz 18 [(5,Pt b11 0),(39,(KF (Kr d kn1 t).1 a17 c17))] (fun X=>?_)
 refine KC 0 ([Sg b11 0 (KU (Kr d kn1 t).1 a17 c17)]::[Sg b10 0 [Sr ([]),Sr ([]),U 0,U 0]]::[Sg b 0 (Ke t a5 c5 a6 c6 a7 c7 a8 c8 a9 c9 a10 c10 a11 c11 a12 c12)]::r1::r2::r3::r4::[Sg b1 0 (W7 (YN d kn1) a1 c1 a2 c2 a3 c3 a4 c4)]::Lr) (J6 [] (JF [0,1,2,3,4,5,6,7,8,9,10,12,13] [(14,0),(15,0)] [] [19] (Ha _) (Kf ?_ KY)))
 refine Jz 19 [(6,Pt b10 0),(40,(Zy d kn1 t))] (fun X=>?_)
 refine KC 1 ([Sg b11 0 (KU (Kr d kn1 t).1 a17 c17)]::[Sg b10 0 (Vu d kn1 t)]::[Sg b 0 (Ke t a5 c5 a6 c6 a7 c7 a8 c8 a9 c9 a10 c10 a11 c11 a12 c12)]::r1::r2::r3::r4::[Sg b1 0 (W7 (YN d kn1) a1 c1 a2 c2 a3 c3 a4 c4)]::Lr) (J6 [(20,I ((Kr d kn1 t).2.2))] (Kl [0,1,2,3,4,5,6,7,8,9,10,12,13,14] [(15,0),(20,0)] [] [(0,Pt b 0),(3,Pt b1 0),(4,I ((((Js t (kn1:Int)).wanted).length:Nat):Int)),(5,Pt b11 0),(6,Pt b10 0),(7,I ((Kr d kn1 t).2.2))] (Ha _) (Jk 7 (Jk 7 (Jk 7 (Jk 7 (Jk 7 (Jk 7 (Jk 6 (Jk 7 ?_))))))))))
 exact QW (b11,b10,a17,c17,G5) ⟨hl5,w66,w67,w68,w69,w59,w60,w61,w62,w63,w64,hs13,w65⟩
 refine Jz 16 [] (fun X=>?_)
 refine Jv 5 #[Sr ([]),U 0,I 0,U 0,U 0,I 0,Sl none 0 0,I 0] 76 (fun b12=>JA [(16,Pt b12 0)] (JF [] [(0,0),(1,0),(2,0),(3,0),(4,6),(5,0),(6,16),(9,0),(10,16)] [7,8] [11] (Kf ?_ (Kf ?_ KY)) (Kf ?_ KY)))
 refine Jr 7 34 (Pt b2 (o1+kn1*8)) [(31,Sl a8 t.town.owners.length c8),(33,I (kn1:Int))] (fun X=>?_)
 exact Qs (b:=b2) (off:=o1) (len:=t.town.owners.length) (cap:=c8) (ik:=.i64) 34 76 8 kn1 ha1 J4 Jp
 refine Jr 8 35 (KF (Js t (kn1:Int)) a13 c13) [(34,Pt b2 (o1+kn1*8))] (fun X=>?_)
 exact W4 (off:=o1) (p:=kn1*8) (cs:=(KU (Js t (kn1:Int)) a13 c13)) 35 76 3 0 (KF (Js t (kn1:Int)) a13 c13) hre1 hc1 Jp
 refine Jz 11 [(35,(KF (Js t (kn1:Int)) a13 c13)),(37,Sr d.value)] (fun X=>?_)
 refine JN 38 (Vk G1 (KU (Js t (kn1:Int)) a13 c13) (Js t (kn1:Int)) (⟨a13,c13,rfl,w19,w20,w21,w22,w23,w24,hs9,w25⟩) d.value w3) (fun v G6 L1 hl6 hp=>?_)
 obtain ⟨a18,c18,rfl,w70,w71,w72,w73,w74,w75,hs14,w76,w77,w78,w79,w80,rfl⟩:=hp
 refine JA [(11,.tuple #[(KF (Kr d kn1 t).1 a18 c18),(Zy d kn1 t),I ((Kr d kn1 t).2.2)]),(12,.tuple #[(KF (Kr d kn1 t).1 a18 c18),(Zy d kn1 t),I ((Kr d kn1 t).2.2)]),(13,(KF (Kr d kn1 t).1 a18 c18)),(14,(Zy d kn1 t)),(15,I ((Kr d kn1 t).2.2))] (JF [0,1,2,3,4,5,6,7,8,9,10] [(12,0),(13,0),(14,0),(15,0)] [] [18] (Ha _) (Kf ?_ KY))
 refine Jz 18 [(5,Pt b12 0),(39,(KF (Kr d kn1 t).1 a18 c18))] (fun X=>?_)
 refine KC 0 ([Sg b12 0 (KU (Kr d kn1 t).1 a18 c18)]::[Sg b10 0 [Sr ([]),Sr ([]),U 0,U 0]]::[Sg b 0 (Ke t a5 c5 a6 c6 a7 c7 a8 c8 a9 c9 a10 c10 a11 c11 a12 c12)]::r1::r2::r3::r4::[Sg b1 0 (W7 (YN d kn1) a1 c1 a2 c2 a3 c3 a4 c4)]::Lr) (J6 [] (JF [0,1,2,3,4,5,6,7,8,9,10,12,13] [(14,0),(15,0)] [] [19] (Ha _) (Kf ?_ KY)))
 refine Jz 19 [(6,Pt b10 0),(40,(Zy d kn1 t))] (fun X=>?_)
 refine KC 1 ([Sg b12 0 (KU (Kr d kn1 t).1 a18 c18)]::[Sg b10 0 (Vu d kn1 t)]::[Sg b 0 (Ke t a5 c5 a6 c6 a7 c7 a8 c8 a9 c9 a10 c10 a11 c11 a12 c12)]::r1::r2::r3::r4::[Sg b1 0 (W7 (YN d kn1) a1 c1 a2 c2 a3 c3 a4 c4)]::Lr) (J6 [(20,I ((Kr d kn1 t).2.2))] (Kl [0,1,2,3,4,5,6,7,8,9,10,12,13,14] [(15,0),(20,0)] [] [(0,Pt b 0),(3,Pt b1 0),(4,I ((((Js t (kn1:Int)).wanted).length:Nat):Int)),(5,Pt b12 0),(6,Pt b10 0),(7,I ((Kr d kn1 t).2.2))] (Ha _) (Jk 7 (Jk 7 (Jk 7 (Jk 7 (Jk 7 (Jk 7 (Jk 6 (Jk 7 ?_))))))))))
 exact QW (b12,b10,a18,c18,G6) ⟨hl6,w77,w78,w79,w80,w70,w71,w72,w73,w74,w75,hs14,w76⟩
 obtain ⟨b3,b4,a14,c14,G2⟩:=q_
 obtain ⟨hle1,hj1,hj2,hj3,hj4,hj5,hj6,hj7,hj8,hj9,hj10,hj11,hj12⟩:=hs
 dsimp only at hle1 hj1 hj2 hj3 hj4 hj5 hj6 hj7 hj8 hj9 hj10 hj11 hj12
 dsimp only
 refine Jf (Jf (Jd (Jb [0,0,0] [(44,Bo (!decide ((Kr d kn1 t).2.2=0)))] (QR [44] (!decide ((Kr d kn1 t).2.2=0)) (fun h2=>?_) (fun h2=>?_)))))
 refine Jb [1,1,1,1,1,0] [(50,Bo true)] (Je (Jc (J0 (Jn (Jj (Jk 6 (Jk 6 (Jk 6 (Jk 6 (Jk 6 ?_))))))))))
 have hf2:Wk t d=t:=by
  exact tWant1 ‹_› ‹_› ‹_›
 refine Jo [] [] (KB (Lr:=Lr) [[Sg b 0 (Ke t a5 c5 a6 c6 a7 c7 a8 c8 a9 c9 a10 c10 a11 c11 a12 c12)],r1,r2,r3,r4] (Ja hl1 hle1) ?_)
 rw [hf2];try dsimp only
 exact ⟨a5,c5,a6,c6,a7,c7,a8,c8,a9,c9,a10,c10,a11,c11,a12,c12,r1,r2,r3,r4,rfl,w13,(hs5.mono hle1),w14,w15,w16,(hs6.mono hle1),(hs7.mono hle1),(hr1.mono hle1),(hr2.mono hle1),w17,(hs8.mono hle1),w18,(hr3.mono hle1),(hr4.mono hle1),rfl⟩
 refine Jb [0,4,2] [(46,U (((Kr d kn1 t).1).key)),(47,(Zy d kn1 t))] (Jm 48 (Bo (Yl (((Kr d kn1 t).1).key) ((Kr d kn1 t).2.1))) (Jh7 G2 (((Kr d kn1 t).1).key) (Vu d kn1 t) ((Kr d kn1 t).2.1) (⟨rfl,hj1,hj2,hj3,hj4⟩)) (Jb [0,0] [(50,Bo (!(Yl (((Kr d kn1 t).1).key) ((Kr d kn1 t).2.1))))] (Je (Jc (Jl (!(Yl (((Kr d kn1 t).1).key) ((Kr d kn1 t).2.1))) (fun h3=>?_) (fun h3=>?_))))))
 refine Jn (Jj (Jk 6 (Jk 6 (Jk 6 (Jk 6 (Jk 6 ?_))))))
 have hf3:Wk t d=t:=by
  exact tWant2 ‹_› ‹_› ‹_›
 refine Jo [] [] (KB (Lr:=Lr) [[Sg b 0 (Ke t a5 c5 a6 c6 a7 c7 a8 c8 a9 c9 a10 c10 a11 c11 a12 c12)],r1,r2,r3,r4] (Ja hl1 hle1) ?_)
 rw [hf3];try dsimp only
 exact ⟨a5,c5,a6,c6,a7,c7,a8,c8,a9,c9,a10,c10,a11,c11,a12,c12,r1,r2,r3,r4,rfl,w13,(hs5.mono hle1),w14,w15,w16,(hs6.mono hle1),(hs7.mono hle1),(hr1.mono hle1),(hr2.mono hle1),w17,(hs8.mono hle1),w18,(hr3.mono hle1),(hr4.mono hle1),rfl⟩
 refine Jq (Jc ?_)
 refine Ye (σ:=Nat×Ba×Nat×Ba×Nat×Ba×Nat×J5) (fun q_=>(J5.le G2 q_.2.2.2.2.2.2.2)∧(rI ((Qw d kn1 t).2.1))∧(rI (((Qw d kn1 t).1).queue.most))∧(RS Q6 q_.2.2.2.2.2.2.2 q_.2.1 q_.2.2.1 (((Qw d kn1 t).1).queue.wait))∧(rI (((Qw d kn1 t).1).batch))∧(rI (((Qw d kn1 t).1).every))∧(rI (((Qw d kn1 t).1).now))∧(RS KO q_.2.2.2.2.2.2.2 q_.2.2.2.1 q_.2.2.2.2.1 (((Qw d kn1 t).1).heads))∧(RS QA q_.2.2.2.2.2.2.2 q_.2.2.2.2.2.1 q_.2.2.2.2.2.2.1 (((Qw d kn1 t).1).books))) (fun q_=>[(0,Pt b 0),(3,Pt b1 0),(4,I ((((Js t (kn1:Int)).wanted).length:Nat):Int)),(5,Pt b3 0),(7,I ((Qw d kn1 t).2.2)),(8,Pt q_.1 0),(9,I ((Qw d kn1 t).2.1))]) (fun q_=>q_.2.2.2.2.2.2.2) (fun q_=>([Sg q_.1 0 (KW (Qw d kn1 t).1 q_.2.1 q_.2.2.1 q_.2.2.2.1 q_.2.2.2.2.1 q_.2.2.2.2.2.1 q_.2.2.2.2.2.2.1)]::[Sg b4 0 (Vu d kn1 t)]::[Sg b3 0 (KU (Kr d kn1 t).1 a14 c14)]::[Sg b 0 (Ke t a5 c5 a6 c6 a7 c7 a8 c8 a9 c9 a10 c10 a11 c11 a12 c12)]::r1::r2::r3::r4::[Sg b1 0 (W7 (YN d kn1) a1 c1 a2 c2 a3 c3 a4 c4)]::Lr)) ?_ (fun q_ hs=>?_)
 refine Kt [6,11,12] (Wm [(0,Pt b 0),(1,Pt b 0),(2,Pt b 0),(3,Pt b 0),(4,(QG t.town.clerk a5 c5 a6 c6 a7 c7)),(5,(Zy d kn1 t))] (JF [] [(0,0),(1,0),(2,0),(3,0),(4,6),(5,2)] [] [6,11] (Ha _) (Kf ?_ (Kf ?_ KY))))
 refine Jz 6 [(56,(QG t.town.clerk a5 c5 a6 c6 a7 c7)),(57,(Zy d kn1 t))] (fun X=>?_)
 refine JN 58 (JdR G2 (KW t.town.clerk a5 c5 a6 c6 a7 c7) t.town.clerk (⟨a5,c5,a6,c6,a7,c7,rfl,w13,(hs5.mono hle1),w14,w15,w16,(hs6.mono hle1),(hs7.mono hle1)⟩) (Vu d kn1 t) ((Kr d kn1 t).2.1) (⟨rfl,hj1,hj2,hj3,hj4⟩)) (fun v G7 L1 hl7 hp=>?_)
 obtain ⟨a19,c19,a20,c20,a21,c21,rfl,w81,hs15,w82,w83,w84,hs16,hs17,w85,rfl⟩:=hp
 refine JA [(6,.tuple #[(QG (Qw d kn1 t).1 a19 c19 a20 c20 a21 c21),I ((Qw d kn1 t).2.1),I ((Qw d kn1 t).2.2)]),(7,.tuple #[(QG (Qw d kn1 t).1 a19 c19 a20 c20 a21 c21),I ((Qw d kn1 t).2.1),I ((Qw d kn1 t).2.2)]),(8,(QG (Qw d kn1 t).1 a19 c19 a20 c20 a21 c21)),(9,I ((Qw d kn1 t).2.1)),(10,I ((Qw d kn1 t).2.2))] (JF [0,1,2,3,4,5] [(7,0),(8,0),(9,0),(10,0)] [] [11] (Ha _) (Kf ?_ KY))
 refine Jz 11 [] (fun X=>?_)
 refine Jv 8 #[I 0,Sl none 0 0,I 0,I 0,I 0,Sl none 0 0,Sl none 0 0] 60 (fun b13=>JA [(11,Pt b13 0)] (JF [0,1,2,3,4,5] [(7,0),(8,0),(9,0),(10,0)] [] [12] (Ha _) (Kf ?_ KY)))
 refine Jz 12 [(8,Pt b13 0),(59,(QG (Qw d kn1 t).1 a19 c19 a20 c20 a21 c21))] (fun X=>?_)
 exact KC 0 ([Sg b13 0 (KW (Qw d kn1 t).1 a19 c19 a20 c20 a21 c21)]::[Sg b4 0 (Vu d kn1 t)]::[Sg b3 0 (KU (Kr d kn1 t).1 a14 c14)]::[Sg b 0 (Ke t a5 c5 a6 c6 a7 c7 a8 c8 a9 c9 a10 c10 a11 c11 a12 c12)]::r1::r2::r3::r4::[Sg b1 0 (W7 (YN d kn1) a1 c1 a2 c2 a3 c3 a4 c4)]::Lr) (J6 [(13,I ((Qw d kn1 t).2.1)),(14,I ((Qw d kn1 t).2.2))] (Kl [0,1,2,3,4,5,7,8] [(9,0),(10,0),(13,0),(14,0)] [] [(0,Pt b 0),(3,Pt b1 0),(4,I ((((Js t (kn1:Int)).wanted).length:Nat):Int)),(5,Pt b3 0),(7,I ((Qw d kn1 t).2.2)),(8,Pt b13 0),(9,I ((Qw d kn1 t).2.1))] (Ha _) (QW (b13,a19,c19,a20,c20,a21,c21,G7) ⟨hl7,w85,w81,hs15,w82,w83,w84,hs16,hs17⟩)))
 refine Jz 11 [] (fun X=>?_)
 refine Jv 8 #[I 0,Sl none 0 0,I 0,I 0,I 0,Sl none 0 0,Sl none 0 0] 60 (fun b14=>JA [(11,Pt b14 0)] (JF [] [(0,0),(1,0),(2,0),(3,0),(4,8),(5,4)] [] [6] (Ha _) (Kf ?_ KY)))
 refine Jz 6 [(56,(QG t.town.clerk a5 c5 a6 c6 a7 c7)),(57,(Zy d kn1 t))] (fun X=>?_)
 refine JN 58 (JdR G2 (KW t.town.clerk a5 c5 a6 c6 a7 c7) t.town.clerk (⟨a5,c5,a6,c6,a7,c7,rfl,w13,(hs5.mono hle1),w14,w15,w16,(hs6.mono hle1),(hs7.mono hle1)⟩) (Vu d kn1 t) ((Kr d kn1 t).2.1) (⟨rfl,hj1,hj2,hj3,hj4⟩)) (fun v G8 L1 hl8 hp=>?_)
 obtain ⟨a22,c22,a23,c23,a24,c24,rfl,w86,hs18,w87,w88,w89,hs19,hs20,w90,rfl⟩:=hp
 refine JA [(6,.tuple #[(QG (Qw d kn1 t).1 a22 c22 a23 c23 a24 c24),I ((Qw d kn1 t).2.1),I ((Qw d kn1 t).2.2)]),(7,.tuple #[(QG (Qw d kn1 t).1 a22 c22 a23 c23 a24 c24),I ((Qw d kn1 t).2.1),I ((Qw d kn1 t).2.2)]),(8,(QG (Qw d kn1 t).1 a22 c22 a23 c23 a24 c24)),(9,I ((Qw d kn1 t).2.1)),(10,I ((Qw d kn1 t).2.2))] (JF [0,1,2,3,4,5] [(7,0),(8,0),(9,0),(10,0)] [] [12] (Ha _) (Kf ?_ KY))
 refine Jz 12 [(8,Pt b14 0),(59,(QG (Qw d kn1 t).1 a22 c22 a23 c23 a24 c24))] (fun X=>?_)
 exact KC 0 ([Sg b14 0 (KW (Qw d kn1 t).1 a22 c22 a23 c23 a24 c24)]::[Sg b4 0 (Vu d kn1 t)]::[Sg b3 0 (KU (Kr d kn1 t).1 a14 c14)]::[Sg b 0 (Ke t a5 c5 a6 c6 a7 c7 a8 c8 a9 c9 a10 c10 a11 c11 a12 c12)]::r1::r2::r3::r4::[Sg b1 0 (W7 (YN d kn1) a1 c1 a2 c2 a3 c3 a4 c4)]::Lr) (J6 [(13,I ((Qw d kn1 t).2.1)),(14,I ((Qw d kn1 t).2.2))] (Kl [0,1,2,3,4,5,7,8] [(9,0),(10,0),(13,0),(14,0)] [] [(0,Pt b 0),(3,Pt b1 0),(4,I ((((Js t (kn1:Int)).wanted).length:Nat):Int)),(5,Pt b3 0),(7,I ((Qw d kn1 t).2.2)),(8,Pt b14 0),(9,I ((Qw d kn1 t).2.1))] (Ha _) (QW (b14,a22,c22,a23,c23,a24,c24,G8) ⟨hl8,w90,w86,hs18,w87,w88,w89,hs19,hs20⟩)))
 obtain ⟨b13,a19,c19,a20,c20,a21,c21,G7⟩:=q_
 obtain ⟨hle2,hj13,hj14,hj15,hj16,hj17,hj18,hj19,hj20⟩:=hs
 dsimp only at hle2 hj13 hj14 hj15 hj16 hj17 hj18 hj19 hj20
 dsimp only
 refine Jf (Jg [0,0] [(63,Bo (!decide ((Qw d kn1 t).2.2=0)))] (Jl (!decide ((Qw d kn1 t).2.2=0)) (fun h4=>?_) (fun h4=>?_)))
 refine Jn (Jj (Jk 7 (Jk 7 (Jk 7 (Jk 7 (Jk 7 ?_))))))
 have hf4:Wk t d=t:=by
  exact tWant3 ‹_› ‹_› ‹_›
 refine Jo [] [] (KB (Lr:=Lr) [[Sg b 0 (Ke t a5 c5 a6 c6 a7 c7 a8 c8 a9 c9 a10 c10 a11 c11 a12 c12)],r1,r2,r3,r4] (Ja (Ja hl1 hle1) hle2) ?_)
 rw [hf4];try dsimp only
 exact ⟨a5,c5,a6,c6,a7,c7,a8,c8,a9,c9,a10,c10,a11,c11,a12,c12,r1,r2,r3,r4,rfl,w13,(hs5.mono (Ja hle1 hle2)),w14,w15,w16,(hs6.mono (Ja hle1 hle2)),(hs7.mono (Ja hle1 hle2)),(hr1.mono (Ja hle1 hle2)),(hr2.mono (Ja hle1 hle2)),w17,(hs8.mono (Ja hle1 hle2)),w18,(hr3.mono (Ja hle1 hle2)),(hr4.mono (Ja hle1 hle2)),rfl⟩
 refine Jq (Jc (Jf (Kt [11,15] (Wm [(0,Pt b 0),(1,Pt b 0),(2,Pt b 0),(3,Pt b 7),(4,Sl a8 t.town.owners.length c8),(5,Pt b1 1),(6,I (kn1:Int)),(7,Pt b 0),(8,(KF (Kr d kn1 t).1 a14 c14)),(9,(QG (Qw d kn1 t).1 a19 c19 a20 c20 a21 c21)),(10,Pt b2 (o1+kn1*8))] (JF [] [(0,0),(1,0),(2,0),(3,0),(4,8),(5,0),(6,18),(7,0),(8,6),(9,2)] [10] [11] (Kf ?_ KY) (Kf ?_ KY))))))
 refine Jr 10 74 (Pt b2 (o1+kn1*8)) [(68,Sl a8 t.town.owners.length c8),(70,I (kn1:Int))] (fun X=>?_)
 exact Qs (b:=b2) (off:=o1) (len:=t.town.owners.length) (cap:=c8) (ik:=.i64) 74 76 8 kn1 ha1 J4 Jp
 refine Jz 11 [(72,(KF (Kr d kn1 t).1 a14 c14)),(74,Pt b2 (o1+kn1*8))] (fun X=>?_)
 refine YC (b:=b2) (off:=o1) 4 (hr1.mono (Ja hle1 hle2)) kn1 ((Kr d kn1 t).1) ha1 J4 (KF (Kr d kn1 t).1 a14 c14) (KU (Kr d kn1 t).1 a14 c14) ⟨a14,c14,rfl,hj5,hj6,hj7,hj8,hj9,hj10,(hj11.mono hle2),hj12⟩ (fun r5 hr5=>?_)
 have e2:t.town.owners.length=(t.town.owners.set kn1 ((Kr d kn1 t).1)).length:=(Hw ..).symm
 refine J6 [(12,Pt b 0),(13,Pt b 0),(14,Pt b 0)] (JF [0,1,2,3,4,5,6,8,10] [(7,0),(9,2),(12,0),(13,0),(14,0)] [] [15] (Ha _) (Kf ?_ KY))
 refine Jz 15 [(73,(QG (Qw d kn1 t).1 a19 c19 a20 c20 a21 c21)),(77,Pt b 0)] (fun X=>?_)
 refine KC 3 ([Sg b13 0 (KW (Qw d kn1 t).1 a19 c19 a20 c20 a21 c21)]::[Sg b4 0 (Vu d kn1 t)]::[Sg b3 0 (KU (Kr d kn1 t).1 a14 c14)]::[Sg b 0 (Ke (⟨(⟨(Qw d kn1 t).1,t.town.owners,t.town.polls,t.town.net⟩:Wl),t.reach,t.fates,t.events⟩:JI) a19 c19 a20 c20 a21 c21 a8 c8 a9 c9 a10 c10 a11 c11 a12 c12)]::r5::r2::r3::r4::[Sg b1 0 (W7 (YN d kn1) a1 c1 a2 c2 a3 c3 a4 c4)]::Lr) (J6 [] (Kl [0,1,2,3,4,5,6,7,8,9,10,12,13,14] [] [] [(0,Pt b 0),(3,Pt b1 0),(4,I ((((Js t (kn1:Int)).wanted).length:Nat):Int)),(9,I ((Qw d kn1 t).2.1))] (Ha _) (Jlf (fr':=[(0,Pt b 0),(3,Pt b1 0),(4,I ((((Js t (kn1:Int)).wanted).length:Nat):Int)),(9,I ((KE t.town.clerk ((JQ (Js t (kn1:Int)) d.value).2.1)).2.1))]) (L':=([Sg b13 0 [I (((KE t.town.clerk ((JQ (Js t (kn1:Int)) d.value).2.1)).1).queue.most),Sl a19 ((((KE t.town.clerk ((JQ (Js t (kn1:Int)) d.value).2.1)).1).queue.wait).length) c19,I (((KE t.town.clerk ((JQ (Js t (kn1:Int)) d.value).2.1)).1).batch),I (((KE t.town.clerk ((JQ (Js t (kn1:Int)) d.value).2.1)).1).every),I (((KE t.town.clerk ((JQ (Js t (kn1:Int)) d.value).2.1)).1).now),Sl a20 ((((KE t.town.clerk ((JQ (Js t (kn1:Int)) d.value).2.1)).1).heads).length) c20,Sl a21 ((((KE t.town.clerk ((JQ (Js t (kn1:Int)) d.value).2.1)).1).books).length) c21]]::[Sg b4 0 [Sr (((JQ (Js t (kn1:Int)) d.value).2.1).name),Sr (((JQ (Js t (kn1:Int)) d.value).2.1).value),U (((JQ (Js t (kn1:Int)) d.value).2.1).n),U (((JQ (Js t (kn1:Int)) d.value).2.1).tag)]]::[Sg b3 0 [Sr (((JQ (Js t (kn1:Int)) d.value).1).name),U (((JQ (Js t (kn1:Int)) d.value).1).key),I (((JQ (Js t (kn1:Int)) d.value).1).head.epoch),U (((JQ (Js t (kn1:Int)) d.value).1).head.root),U (((JQ (Js t (kn1:Int)) d.value).1).head.prev),I (((JQ (Js t (kn1:Int)) d.value).1).head.at_),Sl a14 ((((JQ (Js t (kn1:Int)) d.value).1).wanted).length) c14,I (((JQ (Js t (kn1:Int)) d.value).1).had)]]::[Sg b 0 [I (((KE t.town.clerk ((JQ (Js t (kn1:Int)) d.value).2.1)).1).queue.most),Sl a19 ((((KE t.town.clerk ((JQ (Js t (kn1:Int)) d.value).2.1)).1).queue.wait).length) c19,I (((KE t.town.clerk ((JQ (Js t (kn1:Int)) d.value).2.1)).1).batch),I (((KE t.town.clerk ((JQ (Js t (kn1:Int)) d.value).2.1)).1).every),I (((KE t.town.clerk ((JQ (Js t (kn1:Int)) d.value).2.1)).1).now),Sl a20 ((((KE t.town.clerk ((JQ (Js t (kn1:Int)) d.value).2.1)).1).heads).length) c20,Sl a21 ((((KE t.town.clerk ((JQ (Js t (kn1:Int)) d.value).2.1)).1).books).length) c21,Sl a8 ((t.town.owners.set kn1 ((JQ (Js t (kn1:Int)) d.value).1)).length) c8,Sl a9 t.town.polls.length c9,I t.town.net.now,Sl a10 t.town.net.way.length c10,I t.reach,Sl a11 t.fates.length c11,Sl a12 t.events.length c12]]::r5::r2::r3::r4::[Sg b1 0 [I d.kind,I (kn1:Int),Sr d.value,Sl a1 d.fates.length c1,I d.letter.to_,I d.letter.from_,I d.letter.since,I d.letter.due,Sl a2 d.letter.heads.length c2,I d.letter.reply.head.epoch,U d.letter.reply.head.root,U d.letter.reply.head.prev,I d.letter.reply.head.at_,Sr d.letter.reply.proof.name,Sl a3 d.letter.reply.proof.entries.length c3,Sl a4 d.letter.reply.proof.sides.length c4]]::Lr)) (by rfl) (by (simp only [JiS,KW,W7,KU,Ke,Jkl,QG,JfQ,KF,e2];first | done | rfl)) (Jc (Jd (Jb [0,0,18,0,0] [(78,Pt b 0),(80,I (kn1:Int)),(81,I ((((Js t (kn1:Int)).wanted).length:Nat):Int)),(82,I ((Qw d kn1 t).2.1))] (Jw 7 (Jw 7 (Jw 7 (Jw 7 (Jw 7 ?_)))))))))))
 refine Qi (Ls:=[[Sg b 0 (Ke (⟨(⟨(Qw d kn1 t).1,(t.town.owners.set kn1 ((Kr d kn1 t).1)),t.town.polls,t.town.net⟩:Wl),t.reach,t.fates,t.events⟩:JI) a19 c19 a20 c20 a21 c21 a8 c8 a9 c9 a10 c10 a11 c11 a12 c12)],r5,r2,r3,r4]) (Lr:=([Sg b13 0 (KW (Qw d kn1 t).1 a19 c19 a20 c20 a21 c21)]::[Sg b4 0 (Vu d kn1 t)]::[Sg b3 0 (KU (Kr d kn1 t).1 a14 c14)]::[Sg b1 0 (W7 (YN d kn1) a1 c1 a2 c2 a3 c3 a4 c4)]::Lr)) 83 (Jew G7 b (JkZ d kn1 t) a19 c19 a20 c20 a21 c21 a8 c8 a9 c9 a10 c10 a11 c11 a12 c12 r5 r2 r3 r4 hj14 hj15 hj16 hj17 hj18 hj19 hj20 hr5 (hr2.mono (Ja hle1 hle2)) w17 (hs8.mono (Ja hle1 hle2)) w18 (hr3.mono (Ja hle1 hle2)) (hr4.mono (Ja hle1 hle2)) 1 J4 (kn1:Int) J4 ((((Js t (kn1:Int)).wanted).length:Nat):Int) (by have q_:=(show RS ES _ _ _ (Js t (kn1:Int)).wanted by assumption).le;have p_:=(show RS ES _ _ _ (Js t (kn1:Int)).wanted by assumption).max;omega) ((Qw d kn1 t).2.1) hj13 ‹_›) (fun v G9 L1 hl9 hp=>?_)
 obtain ⟨a25,c25,a26,c26,a27,c27,a28,c28,a29,c29,a30,c30,a31,c31,a32,c32,r6,r7,r8,r9,rfl,w91,hs21,w92,w93,w94,hs22,hs23,hr6,hr7,w95,hs24,w96,hr8,hr9,rfl⟩:=hp
 refine Je (Jk 4 (Jk 4 (Jk 4 (Jk 4 (Jk 4 ?_)))))
 have hf5:Wk t d=(Q8 (JkZ d kn1 t) 1 (kn1:Int) ((((Js t (kn1:Int)).wanted).length:Nat):Int) ((Qw d kn1 t).2.1)):=by
  exact tWant4 ‹_› rfl ‹_› ‹_› ‹_› ‹_›
 refine ZW [] [] (KB (Lr:=Lr) [[Sg b 0 (Ke (Q8 (JkZ d kn1 t) 1 (kn1:Int) ((((Js t (kn1:Int)).wanted).length:Nat):Int) ((Qw d kn1 t).2.1)) a25 c25 a26 c26 a27 c27 a28 c28 a29 c29 a30 c30 a31 c31 a32 c32)],r6,r7,r8,r9] (Ja (Ja (Ja hl1 hle1) hle2) hl9) ?_)
 rw [hf5];try dsimp only
 exact ⟨a25,c25,a26,c26,a27,c27,a28,c28,a29,c29,a30,c30,a31,c31,a32,c32,r6,r7,r8,r9,rfl,w91,hs21,w92,w93,w94,hs22,hs23,hr6,hr7,w95,hs24,w96,hr8,hr9,rfl⟩
end Go.Proofs.YteaampgpgokjmaaGreatDoor
