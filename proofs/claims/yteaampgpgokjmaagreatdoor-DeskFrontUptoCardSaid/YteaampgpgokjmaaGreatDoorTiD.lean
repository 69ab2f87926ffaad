import Derived.Test.YteaampgpgokjmaaGreatDoorTiC
set_option linter.unusedVariables false
set_option linter.unusedSimpArgs false
namespace Go.Proofs.YteaampgpgokjmaaGreatDoor
open Go.Tx
open Go.Proofs
open _root_.List renaming forall_mem_nil → Ha, length_append → Hc, length_cons → He, length_nil → Hh, mem_append → Hi, take_add_one → Hj, take_of_length_le → Hk, length_map → Hl, length_take → Hm, length → Hn, getElem?_eq_getElem → Hp, getElem?_eq_some_iff → Hq, mem_of_getElem? → Hr, any_eq_true → Hu, getElem?_append_left → Hv, length_set → Hw, append_assoc → Hy, foldl_append → Hz, mem_cons → HA, length_filter_le → HB, mem_of_mem_take → HD, replicate → HE, getElem?_drop → HF, getElem?_append_right → HH, getElem?_cons_zero → HJ, getElem?_set_self → HK, mem_filter → HL, map_cons → HM
open IntKind renaming i64 → Hb
open _root_.Decidable renaming not_not → Hd
open _root_.Nat renaming le_trans → Hf, le_of_ble_eq_true → Hg, zero_le → Hs, beq → Ht, lt_of_lt_of_le → HG
open IntWalk renaming i64_in → Ho
open _root_.Bool renaming not_eq_false → Hx, or_eq_false_iff → HC, eq_false_or_eq_true → HI
open _root_.Option renaming some → HN
def Wz (l:List (List Kb)):List Kb:=l[l.length-1]?.getD []
theorem JmI {l:List (List Kb)} {k:Nat} {x:List Kb} (hk:k=l.length-1) (h:l[k]? = some x):x=Wz l:=by unfold Wz;rw [← hk,h];rfl
def Qg (l:List Kb):Bs:=l.map fun x=>x.name
def Q7 (l:List Zx):Bs:=l.map fun x=>x.name
def JaT (c:KT) (m:Bs):Bs:=Qg (Wz c.books)++Q7 c.queue.wait++m
def W9 (c:KT) (m:Bs):Int:=(nn (JaT c m):Int)
theorem JgB {l:List Kb} {i:Nat} {x:Kb} (h:l[i]? = some x):Qg (l.take (i+1))=Qg (l.take i)++[x.name]:=by unfold Qg;rw [Hj,h];simp
theorem JgC {l:List Zx} {i:Nat} {x:Zx} (h:l[i]? = some x):Q7 (l.take (i+1))=Q7 (l.take i)++[x.name]:=by unfold Q7;rw [Hj,h];simp
theorem Jon {l:Bs} {i:Nat} {x:Bb} (h:l[i]? = some x):l.take (i+1)=l.take i++[x]:=by rw [Hj,h];rfl
def Yk (n most:Int):Bool:=decide (n ≥ 1) && decide (n≤most)
theorem VQ {n most:Int}:Yk n most=true ↔ 1≤n∧n≤most:=by unfold Yk;simp
def KZ (root a:Int):JU×Int:=if ¬ JK ⟨0,root,0,a⟩=0 then (Zy,JK ⟨0,root,0,a⟩) else (⟨0,root,0,a⟩,0)
theorem Jai {r a:Int} (hr:0≤r∧r<18446744073709551616) (ha:-9223372036854775808≤a∧a<9223372036854775808):(-9223372036854775808≤(KZ r a).1.epoch∧(KZ r a).1.epoch<9223372036854775808)∧(0≤(KZ r a).1.root∧(KZ r a).1.root<18446744073709551616)∧(0≤(KZ r a).1.prev∧(KZ r a).1.prev<18446744073709551616)∧(-9223372036854775808≤(KZ r a).1.at_∧(KZ r a).1.at_<9223372036854775808):=by
 unfold KZ Zy;split <;> simp <;> omega
theorem JhX (l:List Kb):(Qg l).length=l.length:=by simp [Qg]
theorem JhY (l:List Zx):(Q7 l).length=l.length:=by simp [Q7]
def Z8:KT:=⟨⟨0,[]⟩,0,0,0,[],[]⟩
def J6 (most batch every:Int):KT×Int:=if Yk most 30=false∨Yk batch 30=false∨Yk every 1000=false then (Z8,4) else (⟨⟨most,[]⟩,batch,every,0,[(KZ (JY [] []).1 0).1],[[]]⟩,0)
def YG:List JU→List (List Kb)→Int
 | _,[]=>0
 | hs,l::bs=>if ¬ (JY l []).2=0 then (JY l []).2 else if ¬ (JY l []).1=(W0 hs).root then 8 else YG (hs.drop 1) bs
def QG (c:KT):Int:=if (¬ (W0 c.heads).epoch=0∨¬ (c.books.length:Int)=c.heads.length)∨(W8 c.heads).at_ > c.now then 3 else YG c.heads c.books
theorem JbY {hs:List JU} {bs:List (List Kb)} {i:Nat} {x:List Kb} (hx:bs[i]? = some x):YG (hs.drop i) (bs.drop i)=if ¬ (JY x []).2=0 then (JY x []).2 else if ¬ (JY x []).1=(hs[i]?.getD Zy).root then 8 else YG (hs.drop (i+1)) (bs.drop (i+1)):=by
 obtain ⟨hl,he⟩:=Hq.1 hx
 rw [List.drop_eq_getElem_cons hl,he]
 show (if _ then _ else if _ then _ else _)=_
 have:W0 (hs.drop i)=hs[i]?.getD Zy:=by unfold W0;rw [HF];simp
 rw [this,List.drop_drop]
theorem Ji8 {hs:List JU} {bs:List (List Kb)} {i:Nat} {x:List Kb} {h:JU} (hx:bs[i]? = some x) (hh:hs[i]? = some h) (h0:(JY x []).2=0) (h1:(JY x []).1=h.root):YG (hs.drop i) (bs.drop i)=YG (hs.drop (i+1)) (bs.drop (i+1)):=by
 rw [JbY hx,if_neg (by omega),hh,if_neg (by simpa using h1)]
theorem Jkt {hs:List JU} {bs:List (List Kb)} {i:Nat} {x:List Kb} (hx:bs[i]? = some x) (h0:¬ (JY x []).2=0):YG (hs.drop i) (bs.drop i)=(JY x []).2:=by
 rw [JbY hx,if_pos h0]
theorem Jku {hs:List JU} {bs:List (List Kb)} {i:Nat} {x:List Kb} {h:JU} (hx:bs[i]? = some x) (hh:hs[i]? = some h) (h0:(JY x []).2=0) (h1:¬ (JY x []).1=h.root):YG (hs.drop i) (bs.drop i)=8:=by
 rw [JbY hx,if_neg (by omega),hh,if_pos (by simpa using h1)]
theorem JfT:∀ (bs:List (List Kb)) (hs:List JU),YG hs bs=0 ↔ ∀ (k:Nat) x,bs[k]? = some x→(JY x []).2=0∧(JY x []).1=(hs[k]?.getD Zy).root
 | [],hs=>by simp [YG]
 | l::bs,hs=>by
  have ih:=JfT bs (hs.drop 1)
  have e:W0 hs=hs[0]?.getD Zy:=rfl
  unfold YG
  constructor
  ·
   intro h
   split at h
   · contradiction
   split at h
   · cases h
   ·
    rename_i h1 h2
    intro k x hx
    cases k with
    | zero=>simp only [HJ,HN.injEq] at hx;subst hx;exact ⟨Hd.1 h1,by rw [← e];exact Hd.1 h2⟩
    | succ k =>
     have:=ih.1 h k x (by simpa using hx)
     rw [HF,Nat.add_comm] at this;exact this
  ·
   intro h
   obtain ⟨h1,h2⟩:=h 0 l rfl
   rw [if_neg (by omega),if_neg (by rw [e];omega)]
   refine ih.2 fun k x hx=>?_
   rw [HF,Nat.add_comm]
   exact h (k+1) x (by simpa using hx)
def Kh (c:KT):Int:=if ¬ Km c.queue=0 then Km c.queue else if (Yk c.batch 30=false∨Yk c.every 1000=false)∨c.now<0∨c.now > 1000000000 then 4 else if ¬ (Ki c.heads).1=0 then (Ki c.heads).1 else if ¬ QG c=0 then QG c else if W9 c [] > 24 then 7 else 0
structure Zn (c:KT):Prop where
 queue:Km c.queue=0
 batch:1≤c.batch∧c.batch≤30
 every:1≤c.every∧c.every≤1000
 now:0≤c.now∧c.now≤1000000000
 chain:Zk c.heads
 first:(W0 c.heads).epoch=0
 len:c.books.length=c.heads.length
 at_:(W8 c.heads).at_≤c.now
 root:∀ (k:Nat) x,c.books[k]? = some x→(JY x []).2=0∧(JY x []).1=(c.heads[k]?.getD Zy).root
 names:nn (JaT c [])≤24
theorem JaI {c:KT}:QG c=0 ↔ (W0 c.heads).epoch=0∧c.books.length=c.heads.length∧(W8 c.heads).at_≤c.now∧∀ (k:Nat) x,c.books[k]? = some x→(JY x []).2=0∧(JY x []).1=(c.heads[k]?.getD Zy).root:=by
 unfold QG
 rw [← JfT]
 split
 ·
  rename_i h
  refine ⟨fun e=>(by cases e),fun ⟨a,b,d,_⟩=>?_⟩
  rcases h with (h | h) | h
  · exact absurd a h
  · omega
  · omega
 ·
  rename_i h
  simp only [not_or,Hd] at h
  refine ⟨fun e=>⟨h.1.1,by have:=h.1.2;omega,by omega,e⟩,fun e=>e.2.2.2⟩
theorem Yl {c:KT}:Kh c=0 ↔ Zn c:=by
 unfold Kh
 constructor
 ·
  intro h
  split at h
  · contradiction
  split at h
  · cases h
  split at h
  · contradiction
  split at h
  · contradiction
  split at h
  · cases h
  ·
   rename_i h1 h2 h3 h4 h5
   simp only [not_or,Hx] at h2
   obtain ⟨⟨a1,a2⟩,a3,a4⟩:=h2
   obtain ⟨b1,b2,b3,b4⟩:=JaI.1 (Hd.1 h4)
   unfold W9 at h5
   exact ⟨Hd.1 h1,VQ.1 a1,VQ.1 a2,⟨by omega,by omega⟩,K8.1 (Hd.1 h3),b1,b2,b3,b4,by omega⟩
 ·
  intro h
  have e1:=VQ.2 h.batch
  have e2:=VQ.2 h.every
  have e3:=JaI.2 ⟨h.first,h.len,h.at_,h.root⟩
  have e4:=K8.2 h.chain
  have e5:=h.names
  have e6:=h.now
  rw [if_neg (by rw [h.queue];simp),if_neg (by rw [e1,e2];simp;omega),if_neg (by rw [e4];simp),if_neg (by rw [e3];simp),if_neg (by unfold W9;omega)]
theorem Jkv {c:KT} {x:JU} (h:(c.heads[0]? = some x∧¬ x.epoch=0)∨¬ (c.books.length:Int)=c.heads.length∨(∃ y,c.heads[c.heads.length-1]? = some y∧y.at_ > c.now)):QG c=3:=by
 unfold QG
 rw [if_pos]
 rcases h with ⟨h,h2⟩ | h | ⟨y,h,h2⟩
 · rw [W1 h] at h2;exact .inl (.inl h2)
 · exact .inl (.inr h)
 · rw [Ww rfl h] at h2;exact .inr h2
theorem Joo {c:KT} {x y:JU} (hx:c.heads[0]? = some x) (h1:x.epoch=0) (h2:(c.books.length:Int)=c.heads.length) (hy:c.heads[c.heads.length-1]? = some y) (h3:¬ y.at_ > c.now):QG c=YG c.heads c.books:=by
 unfold QG
 rw [W1 hx] at h1;rw [Ww rfl hy] at h3
 rw [if_neg]
 rintro ((h | h) | h)
 · exact h h1
 · exact h h2
 · exact h3 h
theorem Jfh {c:KT} (hq:Km c.queue=0) (hc:(Ki c.heads).1=0) (hb:QG c=0):0<c.books.length∧c.books.length≤1000∧(Wz c.books).length≤1000∧c.queue.wait.length≤1000:=by
 have h1:=Qf.1 hq
 have h2:=K8.1 hc
 obtain ⟨_,b2,_,b4⟩:=JaI.1 hb
 have l1:=h2.len1;have l2:=h2.len
 have hl:c.books.length-1<c.books.length:=by omega
 have e:c.books[c.books.length-1]? = some (Wz c.books):=by unfold Wz;rw [Hp hl];rfl
 have:=(JcV (b4 _ _ e).1).1.len
 omega
def KF (c:KT) (epoch:Int):List Kb×Int:=if ¬ Kh c=0 then ([],Kh c) else if epoch<0∨epoch ≥ c.books.length then ([],4) else (c.books[epoch.toNat]?.getD [],0)
theorem JdD {c:KT} {e:Int} (h:(KF c e).2=0):Zn c∧0≤e∧e<c.books.length∧c.books[e.toNat]? = some (KF c e).1:=by
 unfold KF at h ⊢
 split at h
 · contradiction
 split at h
 · cases h
 ·
  rename_i h1 h2
  rw [if_neg h1,if_neg h2]
  have hl:e.toNat<c.books.length:=by omega
  refine ⟨Yl.1 (Hd.1 h1),by omega,by omega,?_⟩
  simp only
  rw [Hp hl];rfl
theorem Jop (c:KT) (e:Int):(KF c e).1.length≤24:=by
 by_cases h:(KF c e).2=0
 ·
  obtain ⟨ok,_,_,hx⟩:=JdD h
  exact (JcV (ok.root _ _ hx).1).1.len
 ·
  unfold KF at h ⊢
  split
  · simp
  split
  · simp
  · rename_i h1 h2;rw [if_neg h1,if_neg h2] at h;exact absurd rfl h
def JfU:Go.Shelf.Ren:=⟨fun x=>if Ht x 7 then 210 else if Ht x 8 then 209 else if Ht x 10 then 248 else if Ht x 11 then 247 else 0,fun x=>if Ht x 0 then 0 else if Ht x 4 then 4 else if Ht x 23 then 292 else if Ht x 24 then 22 else if Ht x 26 then 9 else if Ht x 27 then 294 else if Ht x 28 then 295 else if Ht x 33 then 139 else if Ht x 3 then 4 else 0,fun x=>x⟩
theorem lay_n7:SlLaysZ.n7 Tryz.prog JfU:={
 mixed:=rfl,
 f7:=⟨Tryz.f210.name,by decide,Tryz.func210.trans (by kernel_rfl)⟩,
 f10:=⟨Tryz.f248.name,by decide,Tryz.func248.trans (by kernel_rfl)⟩,
 t0:=by kernel_rfl,
 a0:=by intro w;kernel_rfl,
 z0:=by intro w;kernel_rfl,
 v0:=by intro w;kernel_rfl,
 t4:=by kernel_rfl,
 a4:=by intro w;kernel_rfl,
 z4:=by intro w;kernel_rfl,
 v4:=by intro w;kernel_rfl,
 t23:=by kernel_rfl,
 a23:=by intro w;kernel_rfl,
 z23:=by intro w;kernel_rfl,
 v23:=by intro w;kernel_rfl,
 t26:=by kernel_rfl,
 a26:=by intro w;kernel_rfl,
 z26:=by intro w;kernel_rfl,
 v26:=by intro w;kernel_rfl,
 t27:=by kernel_rfl,
 a27:=by intro w;kernel_rfl,
 z27:=by intro w;kernel_rfl,
 v27:=by intro w;kernel_rfl,
 t28:=by kernel_rfl,
 a28:=by intro w;kernel_rfl,
 z28:=by intro w;kernel_rfl,
 v28:=by intro w;kernel_rfl,
 t33:=by kernel_rfl,
 a33:=by intro w;kernel_rfl,
 z33:=by intro w;kernel_rfl,
 v33:=by intro w;kernel_rfl }
theorem lay_n8:SlLaysZ.n8 Tryz.prog JfU:={
 mixed:=rfl,
 f8:=⟨Tryz.f209.name,by decide,Tryz.func209.trans (by kernel_rfl)⟩,
 f11:=⟨Tryz.f247.name,by decide,Tryz.func247.trans (by kernel_rfl)⟩,
 t0:=by kernel_rfl,
 a0:=by intro w;kernel_rfl,
 z0:=by intro w;kernel_rfl,
 v0:=by intro w;kernel_rfl,
 t24:=by kernel_rfl,
 a24:=by intro w;kernel_rfl,
 z24:=by intro w;kernel_rfl,
 v24:=by intro w;kernel_rfl,
 t26:=by kernel_rfl,
 a26:=by intro w;kernel_rfl,
 z26:=by intro w;kernel_rfl,
 v26:=by intro w;kernel_rfl,
 t28:=by kernel_rfl,
 a28:=by intro w;kernel_rfl,
 z28:=by intro w;kernel_rfl,
 v28:=by intro w;kernel_rfl,
 i26:=by kernel_rfl }
theorem JpE:SlLaysZ.n10 Tryz.prog JfU:={
 mixed:=rfl,
 f10:=⟨Tryz.f248.name,by decide,Tryz.func248.trans (by kernel_rfl)⟩,
 t0:=by kernel_rfl,
 a0:=by intro w;kernel_rfl,
 z0:=by intro w;kernel_rfl,
 v0:=by intro w;kernel_rfl,
 t4:=by kernel_rfl,
 a4:=by intro w;kernel_rfl,
 z4:=by intro w;kernel_rfl,
 v4:=by intro w;kernel_rfl,
 t23:=by kernel_rfl,
 a23:=by intro w;kernel_rfl,
 z23:=by intro w;kernel_rfl,
 v23:=by intro w;kernel_rfl,
 t26:=by kernel_rfl,
 a26:=by intro w;kernel_rfl,
 z26:=by intro w;kernel_rfl,
 v26:=by intro w;kernel_rfl,
 t33:=by kernel_rfl,
 a33:=by intro w;kernel_rfl,
 z33:=by intro w;kernel_rfl,
 v33:=by intro w;kernel_rfl }
theorem JgD (G:J4) (root:Int) (hw_root:rU root) (a:Int) (hw_a:rI a) :Q3 96 #[U root,I a] G (.tuple #[.agg #[I (((KZ root a).1).epoch),U (((KZ root a).1).root),U (((KZ root a).1).prev),I (((KZ root a).1).at_)],I ((KZ root a).2)]):=by
 refine JQ Tryz.func96 18 [(0,U root),(1,I a)] rfl (fun w0 G0=>?_)
 refine Jf (Jd (Jv 4 #[I 0,U 0,U 0,I 0] 43 (fun b1=>Jb [0] [] (Je (Jc (Jf (Jd (Jb [0,0,0] [(10,.agg #[I 0,U root,U 0,I a])] (Jv 6 #[I 0,U 0,U 0,I 0] 43 (fun b2=>JT [3] [] [[Sg b2 0 [I 0,U root,U 0,I a]],[Sg b1 0 [I 0,U 0,U 0,I 0]]] (Je (Jc (Jf (Jf (Jd (Jb [2] [(11,.agg #[I 0,U root,U 0,I a])] (Jl 12 (I (JK (⟨0,root,0,a⟩:JU))) (Z5 (⟨0,root,0,a⟩:JU) G) (Jb [0] [(7,I (JK (⟨0,root,0,a⟩:JU)))] (Je (Jc (Jg [0,0] [(14,Bo (!decide (JK (⟨0,root,0,a⟩:JU)=0)))] (Jm (!decide (JK (⟨0,root,0,a⟩:JU)=0)) (fun h1=>?_) (fun h1=>?_)))))))))))))))))))))))
 refine Jg [0,0,5,0] [(5,I (JK (⟨0,root,0,a⟩:JU)))] (Jn (Jj (Jo [1,0] [.agg #[I 0,U 0,U 0,I 0],I (JK (⟨0,root,0,a⟩:JU))] (Jx (Jh _) ?_))))
 have hf_:(KZ root a)=((⟨0,0,0,0⟩:JU),(JK (⟨0,root,0,a⟩:JU))):=by
  unfold KZ Zy;(rw [if_pos ‹_›];done)
 · (try rw [hf_]);(simp only [Qy];done)
 refine Jq (Jc (QB [2,5,0] [(5,I 0)] [[Sg b2 0 [I 0,U root,U 0,I a]],[Sg b1 0 [I 0,U root,U 0,I a]]] (Jn (Jo [1,0] [.agg #[I 0,U root,U 0,I a],I 0] (Jx (Jh _) ?_)))))
 have hf_:(KZ root a)=((⟨0,root,0,a⟩:JU),0):=by
  unfold KZ Zy;(rw [if_neg (by omega)];done)
 · (try rw [hf_]);(simp only [Qy];done)
theorem Jbg (G:J4) (n:Int) (most:Int) :Q3 94 #[I n,I most] G (Bo (Yk n most)):=by
 refine JQ Tryz.func94 12 [(0,I n),(1,I most)] rfl (fun w0 G0=>?_)
 refine Jg [0] [] (Jf (Jd (Jb [0,0,0] [(7,Bo (decide (n ≥ 1)))] (Kr (decide (n ≥ 1)) [7] [0,0,0,0] [1,1,1,0] (fun bb=>[(11,Bo (bb && (decide (n≤most))))]) (Jb [0] [(4,Bo ((decide (n ≥ 1)) && (decide (n≤most))))] (Je (Jc (Jn (Jo [0] [Bo ((decide (n ≥ 1)) && (decide (n≤most)))] (Jx (Jh _) (congrArg Bo (?_:(Yk n most)=((decide (n ≥ 1)) && (decide (n≤most)))).symm)))))))))))
 rfl
theorem JfV (G:J4) (vs_c:Bv) (c:KT) (h_c:Jay.R G vs_c c) (hb:0<c.books.length) (hb2:c.books.length≤1000):YL 164 #[.agg vs_c.toArray] G [] (fun u G' L'=>∃ (a1:Ba) (c2:Nat),u=Sl a1 ((Wz c.books).length) c2∧(RS QE G' a1 c2 (Wz c.books))∧L'=[]):=by
 obtain ⟨a1,c1,a2,c2,a3,c3,rfl,_,_,_,_,_,_,hs3⟩:=h_c
 refine JQ Tryz.func164 11 [(0,(QC c a1 c1 a2 c2 a3 c3))] rfl (fun w0 G0=>?_)
 refine Jf (Jd (Jv 1 #[I c.queue.most,Sl a1 c.queue.wait.length c1,I c.batch,I c.every,I c.now,Sl a2 c.heads.length c2,Sl a3 c.books.length c3] 60 (fun b1=>Jb [0] [] (Je (Jc (Jf (Jd (Jb [0,2,0,2,0,0] [(4,Sl a3 c.books.length c3),(8,I (Hb.wrap ((c.books.length:Int)-1)))] ?_))))))))
 have e1:Hb.wrap ((c.books.length:Int)-1)=((c.books.length-1:Nat):Int):=(Ho _ (by omega)).trans (show (c.books.length:Int)-1=((c.books.length-1:Nat):Int) by omega)
 refine KG 8 (I ((c.books.length-1:Nat):Int)) (congrArg I e1) ?_
 clear e1
 obtain ⟨b2,o1,rfl⟩:=RS.addr hs3 (k:=c.books.length-1) (by omega)
 obtain ⟨x1,hx1⟩:=QQ (l:=c.books) (k:=c.books.length-1) (by omega)
 obtain ⟨_,⟨a4,c4,rfl,hs4⟩,hc1⟩:=RS.get hs3 hx1
 refine JW (b:=b2) (off:=o1) (len:=c.books.length) (cap:=c3) (ik:=.i64) 9 44 1 (c.books.length-1) Kd (JO 10 44 (cs:=[Sl a4 x1.length c4]) 0 (Sl a4 x1.length c4) hc1 (Jb [0] [(2,Sl a4 x1.length c4)] (Je (Jc (Jn ?_)))))
 have hf1:Wz c.books=x1:=by
  exact (JmI rfl hx1).symm
 refine Jo [0] [Sl a4 x1.length c4] (JD [] (Jh _) ?_)
 rw [hf1]
 try dsimp only
 exact ⟨a4,c4,rfl,hs4,rfl⟩
theorem JbZ (G:J4) (vs_c:Bv) (c:KT) (h_c:Jay.R G vs_c c) (a_more:Ba) (c_more:Nat) (more:Bs) (h_more:RS ES G a_more c_more more) (hb:0<c.books.length) (hb2:c.books.length≤1000) (hn1:(Wz c.books).length≤1000) (hn2:c.queue.wait.length≤1000) (hn3:more.length≤1000):Q3 155 #[.agg vs_c.toArray,Sl a_more more.length c_more] G (I (W9 c more)):=by
 obtain ⟨a1,c1,a2,c2,a3,c3,rfl,w1,hs1,w2,w3,w4,hs2,hs3⟩:=h_c
 refine JQ Tryz.func155 49 [(0,(QC c a1 c1 a2 c2 a3 c3)),(1,Sl a_more more.length c_more)] rfl (fun w0 G0=>?_)
 refine Jf (Jd (Jv 2 #[I c.queue.most,Sl a1 c.queue.wait.length c1,I c.batch,I c.every,I c.now,Sl a2 c.heads.length c2,Sl a3 c.books.length c3] 60 (fun b1=>Jb [0] [] (Je (Jc (Jf (Jd (Jkr 12 9 4 (fun b2 ob1 hm1=>Jb [0] [(5,.map (some b2))] (Je (Jc (Jf (Jf (Jd (Jb [4] [(13,(QC c a1 c1 a2 c2 a3 c3))] (JM 14 (JfV G (KW c a1 c1 a2 c2 a3 c3) c (⟨a1,c1,a2,c2,a3,c3,rfl,w1,hs1,w2,w3,w4,hs2,hs3⟩) ‹_› ‹_›) (fun v G1 L1 hl1 hp=>?_)))))))))))))))))
 obtain ⟨a4,c4,rfl,hs4,rfl⟩:=hp
 refine Jb [0,0] [(15,I ((Wz c.books).length:Int)),(16,I 0)] (Je (Jc (Jy ?_)))
 have hlm_h_more:more.length≤9223372036854775807:=Hf (h_more).le (h_more).max
 have hlm_hs4:(Wz c.books).length≤9223372036854775807:=Hf (hs4).le (hs4).max
 refine Qe (σ:=Nat×Obj) (fun q_=>(q_.1≤(Wz c.books).length)∧(Jef Tryz.prog 9 4 q_.2 q_.1 (Dn (Qg ((Wz c.books).take q_.1))))) (fun q_=>[(1,Sl a_more more.length c_more),(2,Pt b1 0),(5,.map (some b2)),(14,Sl a4 ((Wz c.books).length) c4),(15,I ((Wz c.books).length:Int)),(16,I (q_.1:Int))]) (fun q_=>G1) (fun q_=>[[Ob b2 q_.2],[Sg b1 0 (KW c a1 c1 a2 c2 a3 c3)]]) (fun q_=>(Wz c.books).length-q_.1) (0,ob1) ⟨(by (try dsimp only);exact Hs _),(by (try dsimp only);exact hm1)⟩ (fun q_ hs=>?_)
 obtain ⟨i,ob1⟩:=q_
 obtain ⟨hi,hm1⟩:=hs
 dsimp only at hi hm1
 dsimp only
 refine Jg [0] [(17,Bo (decide ((i:Int)<((Wz c.books).length:Int))))] (Jf (Jm (decide ((i:Int)<((Wz c.books).length:Int))) (fun h1=>?_) (fun h1=>?_)))
 refine Jq (Jc (Jf (Jy (Jf (Jd ?_)))))
 obtain ⟨b3,o1,rfl⟩:=RS.addr hs4 (k:=i) (by omega)
 obtain ⟨x1,hx1⟩:=QQ (l:=Wz c.books) (k:=i) (by omega)
 obtain ⟨_,⟨rfl,w5,_⟩,hc1⟩:=RS.get hs4 hx1
 refine JW (b:=b3) (off:=o1) (len:=(Wz c.books).length) (cap:=c4) (ik:=.i64) 18 111 2 i Kd (JO 19 111 (cs:=[Sr x1.name,Sr x1.value]) 0 (.agg #[Sr x1.name,Sr x1.value]) hc1 (Jv 7 #[Sr ([]),Sr ([])] 111 (fun b4=>JT [3] [] [[Sg b4 0 [Sr x1.name,Sr x1.value]],[Ob b2 ob1],[Sg b1 0 (KW c a1 c1 a2 c2 a3 c3)]] (Je (Jc (Jd (Jb [0,0,2] [(20,.map (some b2)),(22,Sr x1.name)] (Jeg (n:=i) (D:=Dn (Qg ((Wz c.books).take i))) (s:=x1.name) 1 292 9 4 true hm1 (Go.Maps.string_keyed (by kernel_rfl)) (by kernel_rfl) (by kernel_rfl) (by kernel_rfl) (Hf w5 (by decide)) (HG (m:=1000000) Kd (by decide)) (fun ob2 hm2=>?_)))))))))
 rw [← Jfg] at hm2
 exact Je (JN (Jc (Jd (Jb [0,0] [(16,I (Hb.wrap ((i:Int)+1)))] (Ku 16 ((i:Int)+1) Kd (Je (QA [[Ob b2 ob2],[Sg b1 0 (KW c a1 c1 a2 c2 a3 c3)]] (Ql (i+1,ob2) ⟨Kd,(by rw [JgB hx1];exact hm2)⟩ (by (try dsimp only);omega)))))))))
 refine KX (J1 (Ke (JV (Jc (Jf (Jg [0,0,4,0,0] [(26,Sl a1 c.queue.wait.length c1),(27,I (c.queue.wait.length:Int)),(28,I 0)] (Jy ?_)))))))
 have hlm_h_more:more.length≤9223372036854775807:=Hf (h_more).le (h_more).max
 have hlm_hs1:c.queue.wait.length≤9223372036854775807:=Hf (hs1).le (hs1).max
 refine Qe (σ:=Nat×Obj) (fun q_=>(q_.1≤c.queue.wait.length)∧(Jef Tryz.prog 9 4 q_.2 ((Wz c.books).length+q_.1) (Dn (Qg (Wz c.books)++Q7 (c.queue.wait.take q_.1))))) (fun q_=>[(1,Sl a_more more.length c_more),(5,.map (some b2)),(26,Sl a1 c.queue.wait.length c1),(27,I (c.queue.wait.length:Int)),(28,I (q_.1:Int))]) (fun q_=>G1) (fun q_=>[[Ob b2 q_.2],[Sg b1 0 (KW c a1 c1 a2 c2 a3 c3)]]) (fun q_=>c.queue.wait.length-q_.1) (0,ob1) ⟨(by (try dsimp only);exact Hs _),(by (try dsimp only);have e_:=Hk (i:=i) (l:=Wz c.books) (by omega);have e2_:i=(Wz c.books).length:=(by omega);have q_:=hm1;rw [e_] at q_;rw [e2_] at q_;simpa [Q7] using q_)⟩ (fun q_ hs=>?_)
 obtain ⟨j,ob2⟩:=q_
 obtain ⟨hi,hm2⟩:=hs
 dsimp only at hi hm2
 dsimp only
 refine Jg [0] [(29,Bo (decide ((j:Int)<(c.queue.wait.length:Int))))] (Jf (Jm (decide ((j:Int)<(c.queue.wait.length:Int))) (fun h2=>?_) (fun h2=>?_)))
 refine Jq (Jc (Jf (Jy (Jf (Jd ?_)))))
 obtain ⟨b5,o2,rfl⟩:=RS.addr (hs1.mono hl1) (k:=j) (by omega)
 obtain ⟨x2,hx2⟩:=QQ (l:=c.queue.wait) (k:=j) (by omega)
 obtain ⟨_,⟨rfl,w7,_,_,_⟩,hc2⟩:=RS.get (hs1.mono hl1) hx2
 refine JW (b:=b5) (off:=o2) (len:=c.queue.wait.length) (cap:=c1) (ik:=.i64) 30 182 4 j Kd (JO 31 182 (cs:=[Sr x2.name,Sr x2.value,U x2.n,U x2.tag]) 0 (.agg #[Sr x2.name,Sr x2.value,U x2.n,U x2.tag]) hc2 (Jv 9 #[Sr ([]),Sr ([]),U 0,U 0] 182 (fun b6=>JT [3] [] [[Sg b6 0 [Sr x2.name,Sr x2.value,U x2.n,U x2.tag]],[Ob b2 ob2],[Sg b1 0 (KW c (At b5 o2) c1 a2 c2 a3 c3)]] (Je (Jc (Jd (Jb [0,0,2] [(32,.map (some b2)),(34,Sr x2.name)] (Jeg (n:=(Wz c.books).length+j) (D:=Dn (Qg (Wz c.books)++Q7 (c.queue.wait.take j))) (s:=x2.name) 1 292 9 4 true hm2 (Go.Maps.string_keyed (by kernel_rfl)) (by kernel_rfl) (by kernel_rfl) (by kernel_rfl) (Hf w7 (by decide)) (HG (m:=1000000) Kd (by decide)) (fun ob3 hm3=>?_)))))))))
 rw [← Jfg] at hm3
 exact Je (JN (Jc (Jd (Jb [0,0] [(28,I (Hb.wrap ((j:Int)+1)))] (Ku 28 ((j:Int)+1) Kd (Je (QA [[Ob b2 ob3],[Sg b1 0 (KW c (At b5 o2) c1 a2 c2 a3 c3)]] (Ql (j+1,ob3) ⟨Kd,(by rw [JgC hx2,← Hy];exact hm3)⟩ (by (try dsimp only);omega)))))))))
 refine KX (J1 (Ke (JV (Jc (Jf (Jg [0,0,0] [(36,Sl a_more more.length c_more),(37,I (more.length:Int)),(38,I 0)] (Jy ?_)))))))
 have hlm_h_more:more.length≤9223372036854775807:=Hf (h_more).le (h_more).max
 refine Qe (σ:=Nat×Obj) (fun q_=>(q_.1≤more.length)∧(Jef Tryz.prog 9 4 q_.2 ((Wz c.books).length+c.queue.wait.length+q_.1) (Dn (Qg (Wz c.books)++Q7 c.queue.wait++more.take q_.1)))) (fun q_=>[(5,.map (some b2)),(36,Sl a_more more.length c_more),(37,I (more.length:Int)),(38,I (q_.1:Int))]) (fun q_=>G1) (fun q_=>[[Ob b2 q_.2],[Sg b1 0 (KW c a1 c1 a2 c2 a3 c3)]]) (fun q_=>more.length-q_.1) (0,ob2) ⟨(by (try dsimp only);exact Hs _),(by (try dsimp only);have e_:=Hk (i:=j) (l:=c.queue.wait) (by omega);have e2_:j=c.queue.wait.length:=(by omega);have q_:=hm2;rw [e_] at q_;rw [e2_] at q_;simpa using q_)⟩ (fun q_ hs=>?_)
 obtain ⟨k,ob3⟩:=q_
 obtain ⟨hi,hm3⟩:=hs
 dsimp only at hi hm3
 dsimp only
 refine Jg [0] [(39,Bo (decide ((k:Int)<(more.length:Int))))] (Jf (Jm (decide ((k:Int)<(more.length:Int))) (fun h3=>?_) (fun h3=>?_)))
 refine Jq (Jc (Jf (Jy (Jf (Jd ?_)))))
 obtain ⟨b7,o3,rfl⟩:=RS.addr (h_more.mono hl1) (k:=k) (by omega)
 obtain ⟨x3,hx3⟩:=QQ (l:=more) (k:=k) (by omega)
 obtain ⟨_,⟨rfl,w11⟩,hc3⟩:=RS.get (h_more.mono hl1) hx3
 refine JW (b:=b7) (off:=o3) (len:=more.length) (cap:=c_more) (ik:=.i64) 40 9 1 k Kd (JO 41 9 (cs:=[Sr x3]) 0 (Sr x3) hc3 (Jb [0] [(11,Sr x3)] (Je (Jc (Jd (Jb [0,0] [(42,.map (some b2)),(43,Sr x3)] (Jeg (n:=(Wz c.books).length+c.queue.wait.length+k) (D:=Dn (Qg (Wz c.books)++Q7 c.queue.wait++more.take k)) (s:=x3) 0 292 9 4 true hm3 (Go.Maps.string_keyed (by kernel_rfl)) (by kernel_rfl) (by kernel_rfl) (by kernel_rfl) (Hf w11 (by decide)) (HG (m:=1000000) Kd (by decide)) (fun ob4 hm4=>?_))))))))
 rw [← Jfg] at hm4
 exact Je (JN (Jc (Jd (Jb [0,0] [(38,I (Hb.wrap ((k:Int)+1)))] (Ku 38 ((k:Int)+1) Kd (Je (Ql (k+1,ob4) ⟨Kd,(by rw [Jon hx3,← Hy];exact hm4)⟩ (by (try dsimp only);omega))))))))
 refine KX (J1 (Ke (JV (Jc (Jf (Jd (Jb [0] [(45,.map (some b2))] (JmH (ρ:=JfU) (b:=b2) 46 lay_n7 (fun bk1=>JhW (ρ:=JfU) (b:=b2) (bk:=bk1) (D:=Dn (Qg (Wz c.books)++Q7 c.queue.wait++more.take k)) 47 1 0 lay_n8 JpE hm3 (by rw [(Jlv _).2.2];refine Hf (nn_le _) ?_;simp only [Hc,JhX,JhY,Hm];omega) (fun a5 c5=>?_))))))))))
 refine Jb [0,0] [(4,I (((strKeys (Dn (Qg (Wz c.books)++Q7 c.queue.wait++more.take k))).length:Nat):Int))] (Je (Jc (Jn (Jo [0] [I (((strKeys (Dn (Qg (Wz c.books)++Q7 c.queue.wait++more.take k))).length:Nat):Int)] (Jx hl1 (congrArg I (?_:(W9 c more)=(((strKeys (Dn (Qg (Wz c.books)++Q7 c.queue.wait++more.take k))).length:Nat):Int)).symm))))))
 rw [JpD];unfold W9 JaT;rw [Hk (i:=k) (l:=more) (by omega)]
theorem JhZ (G:J4) (most:Int) (hw_most:rI most) (batch:Int) (hw_batch:rI batch) (every:Int) (hw_every:rI every) :YL 55 #[I most,I batch,I every] G [] (fun u G' L'=>∃ (a1:Ba) (c2:Nat) (a3:Ba) (c4:Nat) (a5:Ba) (c6:Nat),u=.tuple #[.agg #[I (((J6 most batch every).1).queue.most),Sl a1 ((((J6 most batch every).1).queue.wait).length) c2,I (((J6 most batch every).1).batch),I (((J6 most batch every).1).every),I (((J6 most batch every).1).now),Sl a3 ((((J6 most batch every).1).heads).length) c4,Sl a5 ((((J6 most batch every).1).books).length) c6],I ((J6 most batch every).2)]∧(rI (((J6 most batch every).1).queue.most))∧(RS Q6 G' a1 c2 (((J6 most batch every).1).queue.wait))∧(rI (((J6 most batch every).1).batch))∧(rI (((J6 most batch every).1).every))∧(rI (((J6 most batch every).1).now))∧(RS KN G' a3 c4 (((J6 most batch every).1).heads))∧(RS Qw G' a5 c6 (((J6 most batch every).1).books))∧L'=[]):=by
 refine JQ Tryz.func55 43 [(0,I most),(1,I batch),(2,I every)] rfl (fun w0 G0=>?_)
 refine Jf (Jd (Jv 6 #[I 0,Sl none 0 0,I 0,I 0,I 0,Sl none 0 0,Sl none 0 0] 60 (fun b1=>Jb [0] [] (Je (Jc (Jf (Jf (Jd (Jb [0] [(12,I most)] (Jl 13 (Bo (Yk most 30)) (Jbg G most 30) (Jb [0,0] [(15,Bo (!(Yk most 30)))] (QU [15] (!(Yk most 30)) (fun h1=>?_) (fun h1=>?_)))))))))))))
 refine Jb [1,1,1,0,0,1,1,1,0] [(24,Bo true)] (Je (Jc (J0 (Jg [0,3,0] [(7,I 4)] (Jn (Jj ?_))))))
 have hf1:J6 most batch every=((⟨(⟨0,[]⟩:Q2),0,0,0,[],[]⟩:KT),4):=by
  unfold J6 Z8;simp_all
 refine Jo [0,0] [.agg #[I 0,Sl none 0 0,I 0,I 0,I 0,Sl none 0 0,Sl none 0 0],I 4] (JD [] (Jh _) ?_)
 rw [hf1]
 try dsimp only
 exact ⟨none,0,none,0,none,0,rfl,Kd,(J2 Q6 G),Kd,Kd,Kd,(J2 KN G),(J2 Qw G),rfl⟩
 refine Jb [0] [(16,I batch)] (Jl 17 (Bo (Yk batch 30)) (Jbg G batch 30) (Jb [0,0,0] [(20,Bo (!(Yk batch 30)))] (QU [20] (!(Yk batch 30)) (fun h2=>?_) (fun h2=>?_))))
 refine Jb [1,1,1,0] [(24,Bo true)] (Je (Jc (J0 (Jg [0,3,0] [(7,I 4)] (Jn (Jj ?_))))))
 have hf2:J6 most batch every=((⟨(⟨0,[]⟩:Q2),0,0,0,[],[]⟩:KT),4):=by
  unfold J6 Z8;simp_all
 refine Jo [0,0] [.agg #[I 0,Sl none 0 0,I 0,I 0,I 0,Sl none 0 0,Sl none 0 0],I 4] (JD [] (Jh _) ?_)
 rw [hf2]
 try dsimp only
 exact ⟨none,0,none,0,none,0,rfl,Kd,(J2 Q6 G),Kd,Kd,Kd,(J2 KN G),(J2 Qw G),rfl⟩
 refine Jb [0] [(21,I every)] (Jl 22 (Bo (Yk every 1000)) (Jbg G every 1000) (Jb [0,0] [(24,Bo (!(Yk every 1000)))] (Je (Jc (Jm (!(Yk every 1000)) (fun h3=>?_) (fun h3=>?_))))))
 refine Jg [0,3,0] [(7,I 4)] (Jn (Jj ?_))
 have hf3:J6 most batch every=((⟨(⟨0,[]⟩:Q2),0,0,0,[],[]⟩:KT),4):=by
  unfold J6 Z8;simp_all
 refine Jo [0,0] [.agg #[I 0,Sl none 0 0,I 0,I 0,I 0,Sl none 0 0,Sl none 0 0],I 4] (JD [] (Jh _) ?_)
 rw [hf3]
 try dsimp only
 exact ⟨none,0,none,0,none,0,rfl,Kd,(J2 Q6 G),Kd,Kd,Kd,(J2 KN G),(J2 Qw G),rfl⟩
 refine Jq (Jc (Jf (Jd (Jl 27 (.tuple #[U ((JY ([]) []).1),I ((JY ([]) []).2)]) (Jbw G none 0 ([]) (J2 QE G)) (Jb [0,0,0,0,0] [(8,U ((JY ([]) []).1))] (Je (Jc (Jf (Jd (Jb [0] [(31,U ((JY ([]) []).1))] (Jl 32 (.tuple #[(VJ (KZ ((JY ([]) []).1) 0).1),I ((KZ ((JY ([]) []).1) 0).2)]) (JgD G ((JY ([]) []).1) (Vi _ _) 0 Kd) (Jb [0,0,0] [(33,(VJ (KZ ((JY ([]) []).1) 0).1)),(34,I ((KZ ((JY ([]) []).1) 0).2))] (Jv 10 #[I 0,U 0,U 0,I 0] 43 (fun b2=>JT [3,0] [] [[Sg b2 0 (Jdh (KZ ((JY ([]) []).1) 0).1)],[Sg b1 0 [I 0,Sl none 0 0,I 0,I 0,I 0,Sl none 0 0,Sl none 0 0]]] (Je (Jc (Jf (Jd (Jb [0,0,0,0,2] [(36,.agg #[I most,Sl none 0 0]),(37,I batch),(38,I every),(39,(VJ (KZ ((JY ([]) []).1) 0).1))] (Kq 40 1 #[I (((KZ ((JY ([]) []).1) 0).1).epoch),U (((KZ ((JY ([]) []).1) 0).1).root),U (((KZ ((JY ([]) []).1) 0).1).prev),I (((KZ ((JY ([]) []).1) 0).1).at_)] 43 (fun b3=>Kq 41 1 #[Sl none 0 0] 44 (fun b4=>?_))))))))))))))))))))))
 refine JT [0,9,0] [(7,I 0)] [[Sg b4 0 [Sl none 0 0]],[Sg b3 0 (Jdh (KZ ((JY ([]) []).1) 0).1)],[Sg b2 0 (Jdh (KZ ((JY ([]) []).1) 0).1)],[Sg b1 0 [I most,Sl none 0 0,I batch,I every,I 0,Sl (At b3 0) 1 1,Sl (At b4 0) 1 1]]] (Je (Jc (Jn (JdC (b:=b3) (o:=0) (cs:=(Jdh (KZ ((JY ([]) []).1) 0).1)) 1 (fun G1 hl1 hz1=>?_)))))
 have hs1:RS KN G1 (At b3 0) 1 [((KZ ((JY ([]) []).1) 0).1)]:=RS.lit [(Jdh (KZ ((JY ([]) []).1) 0).1)] [((KZ ((JY ([]) []).1) 0).1)] ⟨⟨rfl,(by have q_:=Jai (r:=(JY [] []).1) (a:=0) (Vi _ _) (by omega);omega),(by have q_:=Jai (r:=(JY [] []).1) (a:=0) (Vi _ _) (by omega);omega),(by have q_:=Jai (r:=(JY [] []).1) (a:=0) (Vi _ _) (by omega);omega),(by have q_:=Jai (r:=(JY [] []).1) (a:=0) (Vi _ _) (by omega);omega)⟩,trivial⟩ hz1 (Hg rfl) (Hg rfl)
 refine JdC (b:=b4) (o:=0) (cs:=[Sl none 0 0]) 0 (fun G2 hl2 hz2=>?_)
 have hs2:RS Qw G2 (At b4 0) 1 [[]]:=RS.lit [[Sl none 0 0]] [[]] ⟨⟨none,0,rfl,(J2 QE G2)⟩,trivial⟩ hz2 (Hg rfl) (Hg rfl)
 have hf4:J6 most batch every=((⟨(⟨most,[]⟩:Q2),batch,every,0,[((KZ ((JY ([]) []).1) 0).1)],[[]]⟩:KT),0):=by
  unfold J6 Z8;simp_all
 refine Jo [3,0] [.agg #[I most,Sl none 0 0,I batch,I every,I 0,Sl (At b3 0) 1 1,Sl (At b4 0) 1 1],I 0] (JD [] (Ja hl1 hl2) ?_)
 rw [hf4]
 try dsimp only
 exact ⟨none,0,(At b3 0),1,(At b4 0),1,rfl,hw_most,(J2 Q6 G2),hw_batch,hw_every,Kd,(hs1.mono hl2),hs2,rfl⟩
set_option maxRecDepth 20000 in
theorem JfW (G:J4) (vs_c:Bv) (c:KT) (h_c:Jay.R G vs_c c) (h0:1≤c.heads.length) (h9:c.heads.length≤40):Q3 206 #[.agg vs_c.toArray] G (I (QG c)):=by
 obtain ⟨a1,c1,a2,c2,a3,c3,rfl,_,_,_,_,_,hs2,hs3⟩:=h_c
 refine JQ Tryz.func206 63 [(0,(QC c a1 c1 a2 c2 a3 c3))] rfl (fun w0 G0=>?_)
 refine Jf (Jd (Jv 1 #[I c.queue.most,Sl a1 c.queue.wait.length c1,I c.batch,I c.every,I c.now,Sl a2 c.heads.length c2,Sl a3 c.books.length c3] 60 (fun b1=>Jb [0] [] (Je (Jc (Jg [0,2,0,0] [(3,I (c.heads.length:Int))] (Jf (Jf ?_))))))))
 obtain ⟨b2,o1,rfl⟩:=RS.addr hs2 (k:=0) (by omega)
 obtain ⟨x1,hx1⟩:=QQ (l:=c.heads) (k:=0) (by omega)
 obtain ⟨_,⟨rfl,_,_,_,_⟩,hc1⟩:=RS.get hs2 hx1
 rcases HI (!decide (x1.epoch=0)) with h1 | h1
 have h1d:=h1
 try simp only [BB] at h1d
 refine Kv [] (Ws [(0,Pt b1 5),(1,Sl (At b2 o1) c.heads.length c2),(2,Pt b2 (o1+0*4)),(3,Pt b2 (o1+0*4)),(4,I x1.epoch),(5,Bo true),(6,Bo true),(7,undef),(8,undef),(9,undef),(10,undef),(11,undef),(12,Bo true),(13,Bo true),(14,undef),(15,undef),(16,undef),(17,undef),(18,undef),(19,undef),(20,undef),(21,undef),(22,undef),(23,undef),(24,Bo true)] (Ko [] [(0,0),(1,2),(3,0),(6,0),(7,1),(8,1),(9,1),(10,1),(11,1),(12,0),(13,0),(14,1),(15,1),(16,1),(17,1),(18,1),(19,1),(20,1),(21,1),(22,1),(23,1),(24,0)] [2,4,5] [(1,Pt b1 0),(35,Bo true)] (Kf ?_ (Kf ?_ (Kf ?_ KY))) ?_))
 refine Jr 2 13 (Pt b2 (o1+0*4)) [(12,Sl (At b2 o1) c.heads.length c2)] (fun X=>?_)
 exact JW (b:=b2) (off:=o1) (len:=c.heads.length) (cap:=c2) (ik:=.i64) 13 43 4 0 Kd Jp
 refine Jr 4 15 (I x1.epoch) [(14,Pt b2 (o1+0*4))] (fun X=>?_)
 exact JO 15 2 (cs:=[I x1.epoch,U x1.root,U x1.prev,I x1.at_]) 0 (I x1.epoch) hc1 Jp
 refine Jr 5 16 (Bo true) [(15,I x1.epoch)] (fun X=>?_)
 exact Qa 16 (Bo (!decide (x1.epoch=0))) (Bo true) (by rw [h1]) Jp
 refine Jc (J0 (Jg [0] [(2,I 3)] (Jn (Jj (Jo [0] [I 3] (Jx (Jh _) (congrArg I (?_:(QG c)=3).symm)))))))
 exact Jkv (.inl ⟨hx1,by assumption⟩)
 have h1d:=h1
 try simp only [BB] at h1d
 rcases HI (!decide ((c.books.length:Int)=(c.heads.length:Int))) with h2 | h2
 have h2d:=h2
 try simp only [BB] at h2d
 refine Kv [] (Ws [(0,Pt b1 5),(1,Sl (At b2 o1) c.heads.length c2),(2,Pt b2 (o1+0*4)),(3,Pt b2 (o1+0*4)),(4,I x1.epoch),(5,Bo false),(6,Bo false),(7,Pt b1 6),(8,Sl a3 c.books.length c3),(9,I (c.books.length:Int)),(10,I (c.heads.length:Int)),(11,Bo true),(12,Bo true),(13,Bo true),(14,undef),(15,undef),(16,undef),(17,undef),(18,undef),(19,undef),(20,undef),(21,undef),(22,undef),(23,undef),(24,Bo true)] (Ko [] [(0,0),(1,2),(3,0),(6,0),(7,0),(8,2),(9,0),(10,0),(12,0),(13,0),(14,1),(15,1),(16,1),(17,1),(18,1),(19,1),(20,1),(21,1),(22,1),(23,1),(24,0)] [2,4,5,11] [(1,Pt b1 0),(35,Bo true)] (Kf ?_ (Kf ?_ (Kf ?_ (Kf ?_ KY)))) ?_))
 refine Jr 2 13 (Pt b2 (o1+0*4)) [(12,Sl (At b2 o1) c.heads.length c2)] (fun X=>?_)
 exact JW (b:=b2) (off:=o1) (len:=c.heads.length) (cap:=c2) (ik:=.i64) 13 43 4 0 Kd Jp
 refine Jr 4 15 (I x1.epoch) [(14,Pt b2 (o1+0*4))] (fun X=>?_)
 exact JO 15 2 (cs:=[I x1.epoch,U x1.root,U x1.prev,I x1.at_]) 0 (I x1.epoch) hc1 Jp
 refine Jr 5 16 (Bo false) [(15,I x1.epoch)] (fun X=>?_)
 exact Qa 16 (Bo (!decide (x1.epoch=0))) (Bo false) (by rw [h1]) Jp
 refine Jr 11 22 (Bo true) [(17,Bo false),(20,I (c.books.length:Int)),(21,I (c.heads.length:Int))] (fun X=>?_)
 exact Qa 22 (Bo (!decide ((c.books.length:Int)=(c.heads.length:Int)))) (Bo true) (by rw [h2]) Jp
 refine Jc (J0 (Jg [0] [(2,I 3)] (Jn (Jj (Jo [0] [I 3] (Jx (Jh _) (congrArg I (?_:(QG c)=3).symm)))))))
 exact Jkv (x:=Zy) (.inr (.inl ‹_›))
 have h2d:=h2
 try simp only [BB] at h2d
 have e1:Hb.wrap ((c.heads.length:Int)-1)=((c.heads.length-1:Nat):Int):=(Ho _ (by omega)).trans (show (c.heads.length:Int)-1=((c.heads.length-1:Nat):Int) by omega)
 obtain ⟨x2,hx2⟩:=QQ (l:=c.heads) (k:=c.heads.length-1) (by omega)
 obtain ⟨_,⟨rfl,_,_,_,_⟩,hc2⟩:=RS.get hs2 hx2
 refine Kv [] (Ws [(0,Pt b1 5),(1,Sl (At b2 o1) c.heads.length c2),(2,Pt b2 (o1+0*4)),(3,Pt b2 (o1+0*4)),(4,I x1.epoch),(5,Bo false),(6,Bo false),(7,Pt b1 6),(8,Sl a3 c.books.length c3),(9,I (c.books.length:Int)),(10,I (c.heads.length:Int)),(11,Bo false),(12,Bo false),(13,Bo false),(14,Pt b1 5),(15,Sl (At b2 o1) c.heads.length c2),(16,I (c.heads.length:Int)),(17,I ((c.heads.length-1:Nat):Int)),(18,Pt b2 (o1+(c.heads.length-1)*4)),(19,Pt b2 (o1+(c.heads.length-1)*4+3)),(20,I x2.at_),(21,Pt b1 4),(22,I c.now),(23,Bo (decide (x2.at_ > c.now))),(24,Bo (decide (x2.at_ > c.now)))] (Ko [] [(0,0),(1,2),(3,0),(6,0),(7,0),(8,2),(9,0),(10,0),(12,0),(13,0),(14,0),(15,2),(16,0),(19,0),(21,0),(22,2),(23,0),(24,0)] [2,4,5,11,17,18,20] [(1,Pt b1 0),(35,Bo (decide (x2.at_ > c.now)))] (Kf ?_ (Kf ?_ (Kf ?_ (Kf ?_ (Kf ?_ (Kf ?_ (Kf ?_ KY))))))) ?_))
 refine Jr 2 13 (Pt b2 (o1+0*4)) [(12,Sl (At b2 o1) c.heads.length c2)] (fun X=>?_)
 exact JW (b:=b2) (off:=o1) (len:=c.heads.length) (cap:=c2) (ik:=.i64) 13 43 4 0 Kd Jp
 refine Jr 4 15 (I x1.epoch) [(14,Pt b2 (o1+0*4))] (fun X=>?_)
 exact JO 15 2 (cs:=[I x1.epoch,U x1.root,U x1.prev,I x1.at_]) 0 (I x1.epoch) hc1 Jp
 refine Jr 5 16 (Bo false) [(15,I x1.epoch)] (fun X=>?_)
 exact Qa 16 (Bo (!decide (x1.epoch=0))) (Bo false) (by rw [h1]) Jp
 refine Jr 11 22 (Bo false) [(17,Bo false),(20,I (c.books.length:Int)),(21,I (c.heads.length:Int))] (fun X=>?_)
 exact Qa 22 (Bo (!decide ((c.books.length:Int)=(c.heads.length:Int)))) (Bo false) (by rw [h2]) Jp
 refine Jr 17 28 (I ((c.heads.length-1:Nat):Int)) [(24,Bo false),(27,I (c.heads.length:Int))] (fun X=>?_)
 exact Qa 28 (I (Hb.wrap ((c.heads.length:Int)-1))) (I ((c.heads.length-1:Nat):Int)) (by simp only [e1]) Jp
 refine Jr 18 29 (Pt b2 (o1+(c.heads.length-1)*4)) [(24,Bo false),(26,Sl (At b2 o1) c.heads.length c2),(28,I ((c.heads.length-1:Nat):Int))] (fun X=>?_)
 exact JW (b:=b2) (off:=o1) (len:=c.heads.length) (cap:=c2) (ik:=.i64) 29 43 4 (c.heads.length-1) Kd Jp
 refine Jr 20 31 (I x2.at_) [(24,Bo false),(30,Pt b2 (o1+(c.heads.length-1)*4+3))] (fun X=>?_)
 exact JO 31 2 (cs:=[I x2.epoch,U x2.root,U x2.prev,I x2.at_]) 3 (I x2.at_) hc2 Jp
 refine Jc (Jm (decide (x2.at_ > c.now)) (fun h3=>?_) (fun h3=>?_))
 refine Jg [0] [(2,I 3)] (Jn (Jj (Jo [0] [I 3] (Jx (Jh _) (congrArg I (?_:(QG c)=3).symm)))))
 exact Jkv (x:=Zy) (.inr (.inr ⟨_,hx2,by omega⟩))
 refine Jq (Jc (Jf (Jg [0,2,0,0] [(37,Sl a3 c.books.length c3),(38,I (c.books.length:Int)),(39,I 0)] (Jy ?_))))
 have hlm_hs3:c.books.length≤9223372036854775807:=Hf (hs3).le (hs3).max
 refine Qe (σ:=Nat) (fun q_=>(q_≤c.books.length)∧(YG c.heads c.books=YG (c.heads.drop q_) (c.books.drop q_))) (fun q_=>[(1,Pt b1 0),(37,Sl a3 c.books.length c3),(38,I (c.books.length:Int)),(39,I (q_:Int))]) (fun q_=>G) (fun q_=>[[Sg b1 0 (KW c a1 c1 (At b2 o1) c2 a3 c3)]]) (fun q_=>c.books.length-q_) 0 ⟨(by (try dsimp only);exact Hs _),rfl⟩ (fun q_ hs=>?_)
 revert hs;revert q_;intro i hs
 obtain ⟨hi,hn⟩:=hs
 dsimp only
 refine Jg [0] [(40,Bo (decide ((i:Int)<(c.books.length:Int))))] (Jf (Jm (decide ((i:Int)<(c.books.length:Int))) (fun h4=>?_) (fun h4=>?_)))
 refine Jq (Jc (Jf (Jy (Jf (Jd (Jb [0] [(41,I (i:Int))] ?_))))))
 obtain ⟨b3,o2,rfl⟩:=RS.addr hs3 (k:=i) (by omega)
 obtain ⟨x3,hx3⟩:=QQ (l:=c.books) (k:=i) (by omega)
 obtain ⟨_,⟨a4,c4,rfl,hs4⟩,hc3⟩:=RS.get hs3 hx3
 refine JW (b:=b3) (off:=o2) (len:=c.books.length) (cap:=c3) (ik:=.i64) 42 44 1 i Kd (JO 43 44 (cs:=[Sl a4 x3.length c4]) 0 (Sl a4 x3.length c4) hc3 (Jb [0,0] [(4,I (i:Int)),(5,Sl a4 x3.length c4)] (Je (Jc (Jf (Jd (Jb [0] [(45,Sl a4 x3.length c4)] (Jl 46 (.tuple #[U ((JY x3 []).1),I ((JY x3 []).2)]) (Jbw G a4 c4 x3 hs4) (Jb [0,0,0,0,0] [(6,U ((JY x3 []).1)),(7,I ((JY x3 []).2))] (Je (Jc (Jy (Jg [0,0,0] [(49,Bo (!decide ((JY x3 []).2=0)))] (Jm (!decide ((JY x3 []).2=0)) (fun h5=>?_) (fun h5=>?_)))))))))))))))
 refine Jg [0,0] [(2,I ((JY x3 []).2))] (Jn (Ju (Ju (Jj (Q1 (Ju (Jj (Jo [0] [I ((JY x3 []).2)] (Jx (Jh _) (congrArg I (?_:(QG c)=((JY x3 []).2)).symm))))))))))
 (rw [Joo hx1 ‹_› ‹_› hx2 (by omega),hn];exact Jkt hx3 ‹_›)
 refine Jf (Jd (Jb [0,0,2,0] [(54,U ((JY x3 []).1)),(56,Sl (At b2 o1) c.heads.length c2),(57,I (i:Int))] ?_))
 obtain ⟨x4,hx4⟩:=QQ (l:=c.heads) (k:=i) (by omega)
 obtain ⟨_,⟨rfl,_,_,_,_⟩,hc4⟩:=RS.get hs2 hx4
 refine JW (b:=b2) (off:=o1) (len:=c.heads.length) (cap:=c2) (ik:=.i64) 58 43 4 i Kd (Jb [0] [(59,Pt b2 (o1+i*4+1))] (JO 60 41 (cs:=[I x4.epoch,U x4.root,U x4.prev,I x4.at_]) 1 (U x4.root) hc4 (Jb [0,0] [(53,Bo (!decide ((JY x3 []).1=x4.root)))] (Je (Jc (Jm (!decide ((JY x3 []).1=x4.root)) (fun h6=>?_) (fun h6=>?_)))))))
 refine Jg [0] [(2,I 8)] (Jn (Ju (Ju (Jj (Q1 (Ju (Jj (Jo [0] [I 8] (Jx (Jh _) (congrArg I (?_:(QG c)=8).symm))))))))))
 (rw [Joo hx1 ‹_› ‹_› hx2 (by omega),hn];exact Jku hx3 hx4 ‹_› ‹_›)
 exact Jq (JN (JN (Jc (Jd (Jb [0,0] [(39,I (Hb.wrap ((i:Int)+1)))] (Ku 39 ((i:Int)+1) Kd (Je (Ql (i+1) ⟨Kd,(by rw [hn];exact Ji8 hx3 hx4 ‹_› ‹_›)⟩ (by (try dsimp only);omega)))))))))
 refine KX (J1 (Ke (JV (Jc (Jg [0] [(2,I 0)] (Jn (Jo [0] [I 0] (Jx (Jh _) (congrArg I (?_:(QG c)=0).symm)))))))))
 (rw [Joo hx1 ‹_› ‹_› hx2 (by omega),hn];(have e_:c.books.drop i=[]:=List.drop_eq_nil_of_le (by omega);rw [e_];simp [YG]))
theorem VC (G:J4) (vs_c:Bv) (c:KT) (h_c:Jay.R G vs_c c) :Q3 152 #[.agg vs_c.toArray] G (I (Kh c)):=by
 obtain ⟨a1,c1,a2,c2,a3,c3,rfl,w1,hs1,w2,w3,w4,hs2,hs3⟩:=h_c
 refine JQ Tryz.func152 50 [(0,(QC c a1 c1 a2 c2 a3 c3))] rfl (fun w0 G0=>?_)
 refine Jf (Jd (Jv 1 #[I c.queue.most,Sl a1 c.queue.wait.length c1,I c.batch,I c.every,I c.now,Sl a2 c.heads.length c2,Sl a3 c.books.length c3] 60 (fun b1=>Jb [0] [] (Je (Jc (Jf (Jf (Jd (Jb [0,2] [(8,.agg #[I c.queue.most,Sl a1 c.queue.wait.length c1])] (Jl 9 (I (Km c.queue)) (Jaz G [I c.queue.most,Sl a1 c.queue.wait.length c1] c.queue (⟨a1,c1,rfl,w1,hs1⟩)) (Jb [0] [(3,I (Km c.queue))] (Je (Jc (Jg [0,0] [(11,Bo (!decide (Km c.queue=0)))] (Jm (!decide (Km c.queue=0)) (fun h1=>?_) (fun h1=>?_))))))))))))))))
 refine Jg [0,0] [(2,I (Km c.queue))] (Jn (Jj (Jo [0] [I (Km c.queue)] (Jx (Jh _) (congrArg I (?_:(Kh c)=(Km c.queue)).symm)))))
 · unfold Kh;(rw [if_pos ‹_›];done)
 refine Jq (Jc (Jf (Jf (Jd (Jb [0,2] [(14,I c.batch)] (Jl 15 (Bo (Yk c.batch 30)) (Jbg G c.batch 30) (Jb [0,0] [(17,Bo (!(Yk c.batch 30)))] (QU [17] (!(Yk c.batch 30)) (fun h2=>?_) (fun h2=>?_)))))))))
 refine Jb [1,1,1,1,0,0,1,1,1,0,0,1,1,1,0] [(32,Bo true)] (Je (Jc (J0 (Jg [0] [(2,I 4)] (Jn (Jj (Jo [0] [I 4] (Jx (Jh _) (congrArg I (?_:(Kh c)=4).symm)))))))))
 · unfold Kh;(rw [if_neg (by simp_all)];(rw [if_pos (by (simp_all;done))];done))
 refine Jb [0,2] [(19,I c.every)] (Jl 20 (Bo (Yk c.every 1000)) (Jbg G c.every 1000) (Jb [0,0,0] [(23,Bo (!(Yk c.every 1000)))] (Kr (!(Yk c.every 1000)) [23] [1,1,1,0] [0,2,0,0] (fun bb=>[(27,Bo (bb || (decide (c.now<0))))]) (Jb [0] [(28,Bo ((!(Yk c.every 1000)) || (decide (c.now<0))))] (Kr ((!(Yk c.every 1000)) || (decide (c.now<0))) [28] [1,1,1,0] [0,2,0,0] (fun bb=>[(32,Bo (bb || (decide (c.now > 1000000000))))]) (Je (Jc (Jm (((!(Yk c.every 1000)) || (decide (c.now<0))) || (decide (c.now > 1000000000))) (fun h3=>?_) (fun h3=>?_)))))))))
 refine Jg [0] [(2,I 4)] (Jn (Jj (Jo [0] [I 4] (Jx (Jh _) (congrArg I (?_:(Kh c)=4).symm)))))
 · unfold Kh;(rw [if_neg (by simp_all)];(rw [if_pos (by (simp_all;grind))];done))
 refine Jq (Jc (Jf (Jf (Jd (Jb [0,2] [(35,Sl a2 c.heads.length c2)] (Jl 36 (.tuple #[I ((Ki c.heads).1),I ((Ki c.heads).2)]) (JaE G a2 c2 c.heads hs2) (Jb [0,0,0,0,0] [(4,I ((Ki c.heads).1))] (Je (Jc (Jg [0,0] [(40,Bo (!decide ((Ki c.heads).1=0)))] (Jm (!decide ((Ki c.heads).1=0)) (fun h4=>?_) (fun h4=>?_))))))))))))
 refine Jg [0,0] [(2,I ((Ki c.heads).1))] (Jn (Jj (Jo [0] [I ((Ki c.heads).1)] (Jx (Jh _) (congrArg I (?_:(Kh c)=((Ki c.heads).1)).symm)))))
 · unfold Kh;(rw [if_neg (by simp_all)];(rw [if_neg (by simp_all)];(rw [if_pos (by (simp_all;done))];done)))
 refine Jq (Jc (Jf (Jf (Jd (Jb [2] [(42,(QC c a1 c1 a2 c2 a3 c3))] (Jl 43 (I (QG c)) (JfW G (KW c a1 c1 a2 c2 a3 c3) c (⟨a1,c1,a2,c2,a3,c3,rfl,w1,hs1,w2,w3,w4,hs2,hs3⟩) (by (have q_:=K8.1 ‹_›;have q1_:=q_.len1;have q2_:=q_.len;omega)) (by (have q_:=K8.1 ‹_›;have q1_:=q_.len1;have q2_:=q_.len;omega))) (Jb [0] [(6,I (QG c))] (Je (Jc (Jg [0,0] [(45,Bo (!decide (QG c=0)))] (Jm (!decide (QG c=0)) (fun h5=>?_) (fun h5=>?_))))))))))))
 refine Jg [0,0] [(2,I (QG c))] (Jn (Jj (Jo [0] [I (QG c)] (Jx (Jh _) (congrArg I (?_:(Kh c)=(QG c)).symm)))))
 · unfold Kh;(rw [if_neg (by simp_all)];(rw [if_neg (by simp_all)];(rw [if_neg (by simp_all)];(rw [if_pos (by (simp_all;done))];done))))
 refine Jq (Jc (Jf (Jf (Jd (Jb [2] [(47,(QC c a1 c1 a2 c2 a3 c3))] (Jl 48 (I (W9 c ([]))) (JbZ G (KW c a1 c1 a2 c2 a3 c3) c (⟨a1,c1,a2,c2,a3,c3,rfl,w1,hs1,w2,w3,w4,hs2,hs3⟩) none 0 ([]) (J2 ES G) (by (obtain ⟨q1_,q2_,q3_,q4_⟩:=Jfh (c:=c) ‹_› ‹_› ‹_›;assumption)) (by (obtain ⟨q1_,q2_,q3_,q4_⟩:=Jfh (c:=c) ‹_› ‹_› ‹_›;assumption)) (by (obtain ⟨q1_,q2_,q3_,q4_⟩:=Jfh (c:=c) ‹_› ‹_› ‹_›;assumption)) (by (obtain ⟨q1_,q2_,q3_,q4_⟩:=Jfh (c:=c) ‹_› ‹_› ‹_›;assumption)) (by (simp;done))) (Jb [0] [(49,Bo (decide (W9 c ([]) > 24)))] (Je (Jc (Jm (decide (W9 c ([]) > 24)) (fun h6=>?_) (fun h6=>?_)))))))))))
 refine Jg [0] [(2,I 7)] (Jn (Jj (Jo [0] [I 7] (Jx (Jh _) (congrArg I (?_:(Kh c)=7).symm)))))
 · unfold Kh;(rw [if_neg (by simp_all)];(rw [if_neg (by simp_all)];(rw [if_neg (by simp_all)];(rw [if_neg (by simp_all)];(rw [if_pos (by (simp_all;done))];done)))))
 refine Jq (Jc (Jg [0] [(2,I 0)] (Jn (Jo [0] [I 0] (Jx (Jh _) (congrArg I (?_:(Kh c)=0).symm))))))
 · unfold Kh;(rw [if_neg (by simp_all)];(rw [if_neg (by simp_all)];(rw [if_neg (by simp_all)];(rw [if_neg (by simp_all)];(rw [if_neg (by simp_all)];done)))))
theorem JgE (G:J4) (vs_c:Bv) (c:KT) (h_c:Jay.R G vs_c c) (epoch:Int) (hw_epoch:rI epoch) :YL 193 #[.agg vs_c.toArray,I epoch] G [] (fun u G' L'=>∃ (a1:Ba) (c2:Nat) (r3:Bg),u=.tuple #[Sl a1 (((KF c epoch).1).length) c2,I ((KF c epoch).2)]∧(JX QE G' a1 c2 ((KF c epoch).1) r3)∧L'=[r3]):=by
 obtain ⟨a1,c1,a2,c2,a3,c3,rfl,w1,hs1,w2,w3,w4,hs2,hs3⟩:=h_c
 refine JQ Tryz.func193 27 [(0,(QC c a1 c1 a2 c2 a3 c3)),(1,I epoch)] rfl (fun w0 G0=>?_)
 refine Jf (Jd (Jv 2 #[I c.queue.most,Sl a1 c.queue.wait.length c1,I c.batch,I c.every,I c.now,Sl a2 c.heads.length c2,Sl a3 c.books.length c3] 60 (fun b1=>Jb [0,0] [] (Je (Jc (Jf (Jf (Jd (Jb [2] [(7,(QC c a1 c1 a2 c2 a3 c3))] (Jl 8 (I (Kh c)) (VC G (KW c a1 c1 a2 c2 a3 c3) c (⟨a1,c1,a2,c2,a3,c3,rfl,w1,hs1,w2,w3,w4,hs2,hs3⟩)) (Jb [0] [(6,I (Kh c))] (Je (Jc (Jg [0,0] [(10,Bo (!decide (Kh c=0)))] (Jm (!decide (Kh c=0)) (fun h1=>?_) (fun h1=>?_))))))))))))))))
 refine Jg [0,0,0] [(4,Sl none 0 0),(5,I (Kh c))] (Jn (Jj (ZH (Jk 0 ?_))))
 have hf1:KF c epoch=([],Kh c):=by
  unfold KF;simp_all
 refine Jo [0,0] [Sl none 0 0,I (Kh c)] (JD [[]] (Jh _) ?_)
 rw [hf1]
 try dsimp only
 exact ⟨none,0,([]),rfl,(JX.none QE _),rfl⟩
 refine Jq (Jc (Jf (Jf (Jd (Jb [0,0,0] [(14,Bo (decide (epoch<0)))] (Kr (decide (epoch<0)) [14] [1,1,1,1,1,0] [0,0,2,0,0,0] (fun bb=>[(20,Bo (bb || (decide (epoch ≥ (c.books.length:Int)))))]) (Je (Jc (Jm ((decide (epoch<0)) || (decide (epoch ≥ (c.books.length:Int)))) (fun h2=>?_) (fun h2=>?_))))))))))
 refine Jg [0,0] [(4,Sl none 0 0),(5,I 4)] (Jn (Jj (ZH (Jk 0 ?_))))
 have hf2:KF c epoch=([],4):=by
  unfold KF;simp_all
 refine Jo [0,0] [Sl none 0 0,I 4] (JD [[]] (Jh _) ?_)
 rw [hf2]
 try dsimp only
 exact ⟨none,0,([]),rfl,(JX.none QE _),rfl⟩
 refine Jq (Jc (Jf (Jd (Jb [0,2,0] [(22,Sl a3 c.books.length c3),(23,I epoch)] ?_))))
 obtain ⟨kn1,hkn1⟩:∃ k_:Nat,epoch=(k_:Int):=⟨(epoch).toNat,by omega⟩
 have e1:epoch=(kn1:Int):=hkn1
 refine KG 23 (I (kn1:Int)) (congrArg I e1) ?_
 obtain ⟨b2,o1,rfl⟩:=RS.addr hs3 (k:=kn1) (by omega)
 obtain ⟨x1,hx1⟩:=QQ (l:=c.books) (k:=kn1) (by omega)
 obtain ⟨_,⟨a4,c4,rfl,hs4⟩,hc1⟩:=RS.get hs3 hx1
 refine JW (b:=b2) (off:=o1) (len:=c.books.length) (cap:=c3) (ik:=.i64) 24 44 1 kn1 Kd (JO 25 44 (cs:=[Sl a4 x1.length c4]) 0 (Sl a4 x1.length c4) hc1 (JM 26 (YN G a4 c4 x1 hs4) (fun v G1 L1 hl1 hp=>?_)))
 obtain ⟨a5,c5,r1,rfl,hr1,rfl⟩:=hp
 refine Jb [0,0] [(4,Sl a5 x1.length c5),(5,I 0)] (Je (Jc (Jn (Jk 0 ?_))))
 have hf3:KF c epoch=(x1,0):=by
  unfold KF;simp_all
 refine Jo [0,0] [Sl a5 x1.length c5,I 0] (JD [r1] hl1 ?_)
 rw [hf3]
 try dsimp only
 exact ⟨a5,c5,r1,rfl,hr1,rfl⟩
theorem Joq {α:Type} {x b:List α} {i:Nat} {v:α} (h:x.take i=b.take i) (hi:i<x.length) (hv:b[i]? = some v):(x.set i v).take (i+1)=b.take (i+1):=by
 rw [Hj,List.take_set_of_le (Nat.le_refl _),h,Hj,hv,HK hi]
theorem Jkw {α:Type} {x b:List α} {i:Nat} (hl:x.length=b.length) (h:x.take i=b.take i) (hi:b.length≤i):x=b:=by
 rw [Hk (by omega),Hk hi] at h;exact h
def Zo (c:KT):Bool:=decide ((c.heads.length:Int)=40) || decide (c.now=1000000000)
def KB (c:KT) (a:Zx):KT×Int×Int:=if ¬ Kh c=0 then (Z8,0,Kh c) else if ¬ (JR c.queue a).2.2=0∧¬ (JR c.queue a).2.2=7 then (Z8,0,(JR c.queue a).2.2) else if Zo c=true then (Z8,0,9) else if (JR c.queue a).2.2=7∨W9 c [a.name] > 24 then (Z8,0,7) else (⟨(JR c.queue a).1,c.batch,c.every,c.now,c.heads,c.books⟩,c.now-c.now.tmod c.every+(Qr (JR c.queue a).2.1 c.batch c.every).1,0)
def JbA (b:List Kb) (l:List Zx):List Kb:=l.foldl (fun b a=>(Qt b a.name a.value).1) b
theorem Ji9 {b:List Kb} {l:List Zx} {i:Nat} {a:Zx} (h:l[i]? = some a):(Qt (JbA b (l.take i)) a.name a.value).1=JbA b (l.take (i+1)):=by
 unfold JbA;rw [Hj,h];simp [Hz]
def V2 (c:KT):List Kb:=JbA (Wz c.books) (J8 c.queue c.batch).2.1
def KV (c:KT):KT×Bool×Int:=if ¬ Kh c=0 then (Z8,false,Kh c) else if Zo c=true then (c,false,0) else if ¬ (c.now+1).tmod c.every=0 then (⟨c.queue,c.batch,c.every,c.now+1,c.heads,c.books⟩,false,0) else (⟨(J8 c.queue c.batch).1,c.batch,c.every,c.now+1,(Qz c.heads (JY (V2 c) []).1 (c.now+1)).1,c.books++[V2 c]⟩,true,0)
theorem Jja {b:List Kb} (h:ZO b):(Qg b).Nodup:=by
 unfold Qg
 refine List.pairwise_map.2 (h.pair.imp fun {x y} hxy e=>?_)
 rw [YD.2 e] at hxy;omega
theorem JbB {b:List Kb} {s:Bb}:s∈Qg b ↔ ∃ x∈b,x.name=s:=by unfold Qg;simp
theorem Z0 {b:List Zx} {s:Bb}:s∈Q7 b ↔ ∃ x∈b,x.name=s:=by unfold Q7;simp
theorem Jjb {b:List Kb} {name value:Bb} (h:ZO b) (hr:KJ name value=0) (hf:name∈Qg b∨b.length<24):(Qt b name value).2=0:=by
 have hp:=(Jol hr).2.2
 have e1:JH b name=((bsF b name Wg).1,(bsF b name Wg).2,0):=by
  unfold JH;rw [if_neg (by rw [Qd.2 h];simp),if_neg (by rw [hp];simp)]
 have e2:Zl b name value=0:=by
  unfold Zl
  rw [e1,if_neg (by simp),if_neg (by rw [hr];simp),if_neg]
  rintro ⟨q1,q2⟩
  rcases hf with hf | hf
  ·
   have:=(Jn2 h name).2 (JbB.1 hf)
   rw [this] at q1;cases q1
  · omega
 unfold Qt
 rw [if_neg (by omega)]
theorem Jhc {b:List Kb} {name value:Bb} (h:(Qt b name value).2=0) {s:Bb}:s∈Qg (Qt b name value).1 ↔ s=name∨s∈Qg b:=by
 obtain ⟨_,_,_,q⟩:=JcT h
 rw [JbB,JbB]
 constructor
 ·
  rintro ⟨x,hx,rfl⟩
  rcases (q x).1 hx with e | ⟨e,_⟩
  · exact .inl (by rw [e])
  · exact .inr ⟨x,e,rfl⟩
 ·
  rintro (rfl | ⟨x,hx,rfl⟩)
  · exact ⟨_,(q _).2 (.inl rfl),rfl⟩
  ·
   by_cases e:x.name=name
   · exact ⟨_,(q _).2 (.inl rfl),e.symm⟩
   · exact ⟨x,(q x).2 (.inr ⟨hx,e⟩),rfl⟩
theorem JmJ {a:Zx} (h:KI a=0):KJ a.name a.value=0:=h
theorem Jhd:∀ (l:List Zx) (b:List Kb),ZO b→(∀ a∈l,KI a=0)→nn (Qg b++Q7 l)≤24 →
  ZO (JbA b l)∧(∀ s,s∈Qg (JbA b l) ↔ s∈Qg b∨s∈Q7 l)
 | [],b,h,_,_=>⟨h,fun s=>by simp [JbA,Q7]⟩
 | a::l,b,h,hr,hn=>by
  have ha:=JmJ (hr a (by simp))
  have hf:a.name∈Qg b∨b.length<24:=by
   by_cases e:a.name∈Qg b
   · exact .inl e
   ·
    right
    have h1:(a.name::Qg b).Nodup:=List.nodup_cons.2 ⟨e,Jja h⟩
    have h2:=Jom h1
    have h3:nn (a.name::Qg b)≤nn (Qg b++Q7 (a::l)):=JdB fun x hx=>by
     rcases HA.1 hx with rfl | hx
     · exact Hi.2 (.inr (Z0.2 ⟨a,by simp,rfl⟩))
     · exact Hi.2 (.inl hx)
    simp only [He] at h2
    have:(Qg b).length=b.length:=by simp [Qg]
    omega
  have hs:=Jjb h ha hf
  have hok:=(JcT hs).2.2.1
  have hmem:∀ s,s∈Qg (Qt b a.name a.value).1++Q7 l→s∈Qg b++Q7 (a::l):=fun s hs'=>by
   rcases Hi.1 hs' with q | q
   ·
    rcases (Jhc hs).1 q with rfl | q
    · exact Hi.2 (.inr (Z0.2 ⟨a,by simp,rfl⟩))
    · exact Hi.2 (.inl q)
   · exact Hi.2 (.inr (by simp only [Q7,HM,HA];exact .inr q))
  obtain ⟨q1,q2⟩:=Jhd l _ hok (fun x hx=>hr x (by simp [hx])) (Hf (JdB hmem) hn)
  refine ⟨q1,fun s=>?_⟩
  show s∈Qg (JbA (Qt b a.name a.value).1 l) ↔ _
  rw [q2 s,Jhc hs]
  simp only [Q7,HM,HA]
  constructor
  ·
   rintro ((h | h) | h)
   · exact .inr (.inl h)
   · exact .inl h
   · exact .inr (.inr h)
  ·
   rintro (h | h | h)
   · exact .inl (.inr h)
   · exact .inl (.inl h)
   · exact .inr h
theorem Zn.last {c:KT} (h:Zn c):c.books[c.books.length-1]? = some (Wz c.books):=by
 have:=h.len;have:=h.chain.len1
 have hl:c.books.length-1<c.books.length:=by omega
 unfold Wz;rw [Hp hl];rfl
theorem Zn.book {c:KT} (h:Zn c) {k:Nat} {x:List Kb} (hx:c.books[k]? = some x):ZO x:=(JcV (h.root k x hx).1).1
theorem Zn.bds {c:KT} (h:Zn c):0<c.books.length∧c.books.length≤1000∧(Wz c.books).length≤1000∧c.queue.wait.length≤1000∧1≤c.heads.length∧c.heads.length≤40:=by
 have h1:=Qf.1 h.queue
 have:=h.len;have:=h.chain.len1;have:=h.chain.len
 have:=(h.book h.last).len
 omega
theorem Zz {c:KT} (h:Kh c=0):(0<c.books.length∧c.books.length≤1000∧(Wz c.books).length≤1000∧c.queue.wait.length≤1000∧1≤c.heads.length∧c.heads.length≤40)∧(0≤c.now∧c.now≤1000000000)∧(1≤c.batch∧c.batch≤30)∧1≤c.every∧c.every≤1000 :=
 let q:=Yl.1 h
 ⟨q.bds,q.now,q.batch,q.every⟩
theorem JeI {c:KT} {a:Zx} (h:(KB c a).2.2=0):Zn c∧(JR c.queue a).2.2=0∧Zo c=false∧nn (JaT c [a.name])≤24∧KB c a=(⟨(JR c.queue a).1,c.batch,c.every,c.now,c.heads,c.books⟩,c.now-c.now.tmod c.every+(Qr (JR c.queue a).2.1 c.batch c.every).1,0):=by
 unfold KB at h ⊢
 split at h
 · contradiction
 split at h
 · rename_i h1 h2;exact absurd h h2.1
 split at h
 · cases h
 split at h
 · cases h
 ·
  rename_i h1 h2 h3 h4
  rw [if_neg h1,if_neg h2,if_neg h3,if_neg h4]
  simp only [not_or] at h4
  have h5:=h4.2;unfold W9 at h5
  exact ⟨Yl.1 (Hd.1 h1),by apply Decidable.byContradiction;intro hc;exact h2 ⟨hc,h4.1⟩,by simpa using h3,by omega,rfl⟩
theorem JfX {c:KT} {a:Zx} (h:(KB c a).2.2=0):Zn (KB c a).1:=by
 obtain ⟨ok,hq,_,hn,e⟩:=JeI h
 rw [e]
 obtain ⟨_,_,_,e2⟩:=Jez hq
 refine ⟨JfG hq,ok.batch,ok.every,ok.now,ok.chain,ok.first,ok.len,ok.at_,ok.root,?_⟩
 refine Hf (JdB fun x hx=>?_) hn
 unfold JaT at hx ⊢
 rw [e2] at hx
 simp only [Q7,List.map_append,HM,List.map_nil,Hi,List.mem_singleton,List.not_mem_nil,or_false] at hx ⊢
 rcases hx with h | h | h
 · exact .inl (.inl h)
 · exact .inl (.inr h)
 · exact .inr h
theorem Jor {c:KT} (h:Zn c) (hc:Zo c=false) {r:Int} (hr:r<2305843009213693951):(Qz c.heads r (c.now+1)).2=0∧Qz c.heads r (c.now+1)=(c.heads++[(JB (W8 c.heads) r (c.now+1)).1],0)∧(JB (W8 c.heads) r (c.now+1)).2=0:=by
 unfold Zo at hc
 simp only [HC,decide_eq_false_iff_not] at hc
 have hn:=h.now
 have he:(JB (W8 c.heads) r (c.now+1)).2=0:=by
  have hk:JK (W8 c.heads)=0:=h.chain.ok _ (Hr h.chain.last)
  have hl:=h.chain.lastE
  have hf:=h.first
  have hlen:=h.chain.len
  have ha:=h.at_
  have hb:=JaP (W8 c.heads)
  have hb2:=Zi hk
  unfold JB
  have:YC (W8 c.heads) r (c.now+1)=0:=by
   unfold YC
   rw [if_neg (by omega),if_neg (by omega),if_neg (by omega)]
   unfold JK
   simp only
   rw [if_neg (by omega),if_neg (by omega)]
  rw [if_neg (by omega)]
 have hg:Z7 c.heads r (c.now+1)=0:=by
  unfold Z7
  rw [if_neg (by rw [QF.2 h.chain];simp),if_neg (by exact_mod_cast hc.1),he]
 refine ⟨?_,?_,he⟩ <;> (unfold Qz;rw [if_neg (by omega)])
theorem JgF (l:List JU) (r t:Int):(Qz l r t).1.length≤40:=by
 by_cases h:(Qz l r t).2=0
 ·
  obtain ⟨_,h2,_,h4⟩:=Jdw h
  rw [h4];simp;omega
 · rw [Jgv h];simp
theorem JcB {c:KT} (h:Zn c):(J8 c.queue c.batch).2.2=0∧J8 c.queue c.batch=((⟨c.queue.most,c.queue.wait.drop (QX c.batch c.queue.wait)⟩:Q2),c.queue.wait.take (QX c.batch c.queue.wait),(0:Int)):=by
 have hq:=h.queue;have hb:=h.batch
 constructor <;> (unfold J8;rw [if_neg (by omega),if_neg (by omega)])
theorem Jjc {c:KT} (h:Zn c):ZO (V2 c)∧(∀ s,s∈Qg (V2 c) ↔ s∈Qg (Wz c.books)∨s∈Q7 (c.queue.wait.take (QX c.batch c.queue.wait))):=by
 unfold V2
 rw [(JcB h).2]
 refine Jhd _ _ (h.book h.last) (fun a ha=>(Qf.1 h.queue).2.2.2 a (HD ha)) (Hf (JdB fun x hx=>?_) h.names)
 unfold JaT
 rcases Hi.1 hx with q | q
 · simp [q]
 ·
  obtain ⟨a,ha,rfl⟩:=Z0.1 q
  have:a.name∈Q7 c.queue.wait:=Z0.2 ⟨a,HD ha,rfl⟩
  simp [this]
theorem Jkx (l:List (List Kb)) (x:List Kb):Wz (l++[x])=x:=by unfold Wz;simp
theorem Jky {l:List JU} (h:1≤l.length) (m:List JU):W0 (l++m)=W0 l:=by
 unfold W0;rw [Hv (by omega)]
theorem Jkz (l:List JU) (x:JU):W8 (l++[x])=x:=by unfold W8;simp
structure Ticked (c d:KT):Prop where
 ok:Zn d
 batch:d.batch=c.batch
 every:d.every=c.every
 heads:∃ m,d.heads=c.heads++m
 books:∃ m,d.books=c.books++m
theorem JdE {c:KT} (h:Zn c):(KV c).2.2=0∧Ticked c (KV c).1:=by
 have h0:=Yl.2 h
 unfold KV
 rw [if_neg (by omega)]
 by_cases h1:Zo c=true
 · rw [if_pos h1];exact ⟨rfl,h,rfl,rfl,⟨[],by simp⟩,⟨[],by simp⟩⟩
 rw [if_neg h1]
 have h1':Zo c=false:=by simpa using h1
 have hnow:c.now+1≤1000000000:=by
  have:=h.now;unfold Zo at h1';simp only [HC,decide_eq_false_iff_not] at h1';omega
 by_cases h2:(c.now+1).tmod c.every=0
 ·
  rw [if_neg (by omega)]
  obtain ⟨t1,t2⟩:=Jjc h
  have hroot:=JfO (q:=[]) t1 (by simp) (by simp)
  have hb:=JeH (K7 (V2 c) []) []
  have hr:(JY (V2 c) []).1<2305843009213693951:=by rw [hroot];exact hb.2
  obtain ⟨g1,g2,g3⟩:=Jor h h1' hr
  obtain ⟨k1,k2⟩:=Jkq g3
  obtain ⟨u1,u2⟩:=JcB h
  have hlen1:=h.chain.len1
  have hlt:c.heads.length<40:=(Jdw g1).2.1
  rw [g2]
  have hbk:=h.len
  have hnx:=(JaQ g3).2.2.2.1
  refine ⟨rfl,⟨JeZ u1,h.batch,h.every,⟨by have:=h.now;show 0≤c.now+1;omega,hnow⟩,h.chain.snoc hlt k2 k1,?_,?_,?_,?_,?_⟩,rfl,rfl,⟨_,rfl⟩,⟨_,rfl⟩⟩
  · show (W0 (c.heads++_)).epoch=0;rw [Jky hlen1];exact h.first
  · simp only [Hc,He,Hh];omega
  · show (W8 (c.heads++_)).at_≤c.now+1;rw [Jkz,hnx];exact Int.le_refl _
  ·
   intro k x hx
   simp only at hx ⊢
   by_cases hk:k<c.books.length
   ·
    rw [Hv hk] at hx
    rw [Hv (by omega)]
    exact h.root k x hx
   ·
    rw [HH (by omega)] at hx
    have hk2:k-c.books.length=0:=by
     have:=(Hq.1 hx).1;simp at this;omega
    rw [hk2] at hx
    simp only [HJ,HN.injEq] at hx
    subst hx
    rw [HH (by omega),show k-c.heads.length=0 by omega]
    refine ⟨by rw [hroot],?_⟩
    show _=(JB _ _ _).1.root
    rw [hnx]
  ·
   refine Hf (JdB fun x hx=>?_) h.names
   unfold JaT at hx ⊢
   simp only [Jkx,List.append_nil] at hx ⊢
   rw [u2] at hx
   rcases Hi.1 hx with q | q
   ·
    rcases (t2 x).1 q with q | q
    · exact Hi.2 (.inl q)
    ·
     obtain ⟨a,ha,rfl⟩:=Z0.1 q
     exact Hi.2 (.inr (Z0.2 ⟨a,HD ha,rfl⟩))
   ·
    obtain ⟨a,ha,rfl⟩:=Z0.1 q
    exact Hi.2 (.inr (Z0.2 ⟨a,List.mem_of_mem_drop ha,rfl⟩))
 ·
  rw [if_pos h2]
  refine ⟨rfl,⟨h.queue,h.batch,h.every,⟨by have:=h.now;show 0≤c.now+1;omega,hnow⟩,h.chain,h.first,h.len,?_,h.root,h.names⟩,rfl,rfl,⟨[],by simp⟩,⟨[],by simp⟩⟩
  have:=h.at_;show (W8 c.heads).at_≤c.now+1;omega
theorem JcC {c:KT} (h:Zn c):((KV c).1.now=c.now∧Zo c=true)∨(Zo c=false∧(KV c).1.now=c.now+1):=by
 have h0:=Yl.2 h
 unfold KV
 rw [if_neg (by omega)]
 by_cases h1:Zo c=true
 · rw [if_pos h1];exact .inl ⟨rfl,h1⟩
 ·
  rw [if_neg h1]
  refine .inr ⟨by simpa using h1,?_⟩
  split <;> rfl
theorem JpF {n e:Int} (h:0≤n):n.tmod e=n % e:=Int.tmod_eq_emod_of_nonneg h
theorem Jaj {n e:Int} (h:0≤n) (he:1≤e):0≤n.tmod e∧n.tmod e≤n∧n.tmod e<e:=by
 rw [JpF h]
 have h2:=Int.emod_nonneg n (show e ≠ 0 by omega)
 have h3:=Int.emod_lt_of_pos n (show 0<e by omega)
 have h1:=Int.emod_add_mul_ediv n e
 have h4:0≤e*(n / e):=Int.mul_nonneg (by omega) (Int.ediv_nonneg h (by omega))
 omega
theorem JfY (a b e:Int):0≤(Qr a b e).1∧(Qr a b e).1≤31000:=by
 unfold Qr
 split
 · simp
 ·
  have h1:=Jfa (a:=a) (b:=b) (by omega) (by omega)
  have h2:=Jlh (a:=a.tdiv b+1) (b:=e) (by omega) (by omega)
  simp only;omega
theorem JeJ (G:J4) (vs_c:Bv) (c:KT) (h_c:Jay.R G vs_c c) :Q3 154 #[.agg vs_c.toArray] G (Bo (Zo c)):=by
 obtain ⟨a1,c1,a2,c2,a3,c3,rfl,_,_,_,_,_,_,_⟩:=h_c
 refine JQ Tryz.func154 12 [(0,(QC c a1 c1 a2 c2 a3 c3))] rfl (fun w0 G0=>?_)
 refine Jf (Jd (Jv 1 #[I c.queue.most,Sl a1 c.queue.wait.length c1,I c.batch,I c.every,I c.now,Sl a2 c.heads.length c2,Sl a3 c.books.length c3] 60 (fun b1=>Jb [0] [] (Je (Jc (Jf (Jd (Jb [0,2,0,0,0] [(7,Bo (decide ((c.heads.length:Int)=40)))] (Kr (decide ((c.heads.length:Int)=40)) [7] [1,1,1,0] [0,2,0,0] (fun bb=>[(11,Bo (bb || (decide (c.now=1000000000))))]) (Jb [0] [(2,Bo ((decide ((c.heads.length:Int)=40)) || (decide (c.now=1000000000))))] (Je (Jc (Jn (Jo [0] [Bo ((decide ((c.heads.length:Int)=40)) || (decide (c.now=1000000000)))] (Jx (Jh _) (congrArg Bo (?_:(Zo c)=((decide ((c.heads.length:Int)=40)) || (decide (c.now=1000000000)))).symm))))))))))))))))
 rfl
theorem JeK (G:J4) (vs_c:Bv) (c:KT) (h_c:Jay.R G vs_c c) (hb:c.books.length≤1000):YL 156 #[.agg vs_c.toArray] G [] (fun u G' L'=>∃ (a1:Ba) (c2:Nat) (a3:Ba) (c4:Nat) (a5:Ba),u=.agg #[I c.queue.most,Sl a1 c.queue.wait.length c2,I c.batch,I c.every,I c.now,Sl a3 c.heads.length c4,Sl a5 c.books.length c.books.length]∧(rI c.queue.most)∧(RS Q6 G' a1 c2 c.queue.wait)∧(rI c.batch)∧(rI c.every)∧(rI c.now)∧(RS KN G' a3 c4 c.heads)∧(RS Qw G' a5 c.books.length c.books)∧L'=[]):=by
 obtain ⟨a1,c1,a2,c2,a3,c3,rfl,w1,hs1,w2,w3,w4,hs2,hs3⟩:=h_c
 refine JQ Tryz.func156 37 [(0,(QC c a1 c1 a2 c2 a3 c3))] rfl (fun w0 G0=>?_)
 refine Jf (Jd (Jv 1 #[I c.queue.most,Sl a1 c.queue.wait.length c1,I c.batch,I c.every,I c.now,Sl a2 c.heads.length c2,Sl a3 c.books.length c3] 60 (fun b1=>Jv 2 #[I 0,Sl none 0 0,I 0,I 0,I 0,Sl none 0 0,Sl none 0 0] 60 (fun b2=>Je (Jc (Jf (Jd (Jb [0,0,4] [(8,Sl a1 c.queue.wait.length c1)] (JM 9 (YO G a1 c1 c.queue.wait hs1) (fun v G1 L1 hl1 hp=>?_))))))))))
 obtain ⟨a4,c4,r1,rfl,hr1,rfl⟩:=hp
 refine JT [0,0,7] [] [r1,[Sg b2 0 [I 0,Sl none 0 0,I 0,I 0,I 0,Sl none 0 0,Sl none 0 0]],[Sg b1 0 (KW c a4 c4 a2 c2 a3 c3)]] (Je (Jc (Jf (Jd (Jb [0,6] [(13,Sl a2 c.heads.length c2)] (JM 14 (Vz G1 a2 c2 c.heads (hs2.mono hl1)) (fun v G2 L1 hl2 hp=>?_)))))))
 obtain ⟨a5,c5,r2,rfl,hr2,rfl⟩:=hp
 refine JT [0,9] [] [r2,r1,[Sg b2 0 [I 0,Sl none 0 0,I 0,I 0,I 0,Sl none 0 0,Sl none 0 0]],[Sg b1 0 (KW c a4 c4 a5 c5 a3 c3)]] (Je (Jc (Jf (Jd (Jb [0,8,0] [(18,I (c.books.length:Int))] (JfS (E:=Qw) (bytes:=24) 19 58 44 c.books.length ([]:List Kb) ⟨rfl,rfl,fun G=>⟨_,_,rfl,J2 QE G⟩⟩ Kd Kd (by kernel_rfl) (fun a6 r3 hr3=>Jb [0] [(3,Sl a6 ((HE c.books.length ([]:List Kb)).length) c.books.length)] (Je (Jc (Jf (Jg [0,10,0,0] [(21,Sl a3 c.books.length c3),(22,I (c.books.length:Int)),(23,I 0)] (Jy ?_))))))))))))
 have hlm_hs3:c.books.length≤9223372036854775807:=Hf (hs3).le (hs3).max
 refine Qe (σ:=Nat×Ba×Nat×Bg×List (List Kb)×J4) (fun q_=>(J4.le G2 q_.2.2.2.2.2)∧(q_.1≤c.books.length)∧(JX Qw q_.2.2.2.2.2 q_.2.1 q_.2.2.1 q_.2.2.2.2.1 q_.2.2.2.1)∧(q_.2.2.2.2.1.length=c.books.length∧q_.2.2.2.2.1.take q_.1=c.books.take q_.1)∧(q_.2.2.1=q_.2.2.2.2.1.length)) (fun q_=>[(1,Pt b1 0),(2,Pt b2 0),(3,Sl q_.2.1 q_.2.2.2.2.1.length q_.2.2.1),(21,Sl a3 c.books.length c3),(22,I (c.books.length:Int)),(23,I (q_.1:Int))]) (fun q_=>q_.2.2.2.2.2) (fun q_=>[q_.2.2.2.1,r2,r1,[Sg b2 0 [I 0,Sl none 0 0,I 0,I 0,I 0,Sl none 0 0,Sl none 0 0]],[Sg b1 0 (KW c a4 c4 a5 c5 a3 c3)]]) (fun q_=>c.books.length-q_.1) (0,a6,c.books.length,r3,(HE c.books.length ([]:List Kb)),G2) ⟨(Jh _),(by (try dsimp only);exact Hs _),hr3,⟨by simp,rfl⟩,(by (try dsimp only);simp)⟩ (fun q_ hs=>?_)
 obtain ⟨i,aw,cw,rw,xw,g⟩:=q_
 obtain ⟨hle,hi,hrw,hxw,hcw⟩:=hs
 dsimp only at hle hi hrw hxw hcw
 dsimp only
 refine Jg [0] [(24,Bo (decide ((i:Int)<(c.books.length:Int))))] (Jf (Jm (decide ((i:Int)<(c.books.length:Int))) (fun h1=>?_) (fun h1=>?_)))
 refine Jq (Jc (Jf (Jy (Jf (Jd (Jb [0] [(25,I (i:Int))] ?_))))))
 obtain ⟨b3,o1,rfl⟩:=RS.addr (hs3.mono (Ja (Ja hl1 hl2) hle)) (k:=i) (by omega)
 obtain ⟨x1,hx1⟩:=QQ (l:=c.books) (k:=i) (by omega)
 obtain ⟨_,⟨a7,c6,rfl,hs4⟩,hc1⟩:=RS.get (hs3.mono (Ja (Ja hl1 hl2) hle)) hx1
 refine JW (b:=b3) (off:=o1) (len:=c.books.length) (cap:=c3) (ik:=.i64) 26 44 1 i Kd (JO 27 44 (cs:=[Sl a7 x1.length c6]) 0 (Sl a7 x1.length c6) hc1 (Jb [0,0] [(4,I (i:Int)),(5,Sl a7 x1.length c6)] (Je (Jc (Jd (Jb [0,0,0] [(28,Sl aw xw.length cw),(29,I (i:Int)),(30,Sl a7 x1.length c6)] (JM 31 (YN g a7 c6 x1 hs4) (fun v G3 L1 hl3 hp=>?_))))))))
 obtain ⟨a8,c7,_,rfl,hr4,rfl⟩:=hp
 obtain ⟨_,hx2⟩:=QQ (l:=xw) (k:=i) (by omega)
 obtain ⟨b4,o2,_,_,⟨_,_,rfl,_⟩,ha1,_,_⟩:=JX.ix (hrw.mono hl3) hx2
 refine Qq (b:=b4) (off:=o2) (len:=xw.length) (cap:=cw) (ik:=.i64) 32 44 1 i ha1 Kd (WB (E:=QE) 0 hr4 (by exact (hs4).fit) (fun G4 hl4 hs6=>Yx (b:=b4) (off:=o2) 1 (hrw.mono (Ja hl3 hl4)) i x1 ha1 Kd (Sl a8 x1.length c7) [Sl a8 x1.length c7] ⟨a8,c7,rfl,hs6⟩ (fun r5 hr5=>?_)))
 have e1:xw.length=(xw.set i x1).length:=(Hw ..).symm
 exact KG 3 (Sl aw ((xw.set i x1).length) cw) (congrArg (Sl aw · cw) e1) (KG 28 (Sl aw ((xw.set i x1).length) cw) (congrArg (Sl aw · cw) e1) (Je (JN (Jc (Jd (Jb [0,0] [(23,I (Hb.wrap ((i:Int)+1)))] (Ku 23 ((i:Int)+1) Kd (Je (QA [r5,r2,r1,[Sg b2 0 [I 0,Sl none 0 0,I 0,I 0,I 0,Sl none 0 0,Sl none 0 0]],[Sg b1 0 (KW c a4 c4 a5 c5 (At b3 o1) c3)]] (Ql (i+1,aw,cw,r5,xw.set i x1,G4) ⟨(Ja hle (Ja hl3 hl4)),Kd,hr5,⟨by simp only [Hw];exact hxw.1,Joq hxw.2 Kd hx1⟩,(by simp only [Hw];exact hcw)⟩ (by (try dsimp only);omega)))))))))))
 refine KX (J1 (Ke (JV (Jc (QB [0,0,11] [] [rw,r2,r1,[Sg b2 0 [I 0,Sl none 0 0,I 0,I 0,I 0,Sl none 0 0,Sl none 0 0]],[Sg b1 0 [I c.queue.most,Sl a4 c.queue.wait.length c4,I c.batch,I c.every,I c.now,Sl a5 c.heads.length c5,Sl aw xw.length cw]]] (QB [10,9] [] [rw,r2,r1,[Sg b2 0 [I c.queue.most,Sl a4 c.queue.wait.length c4,I c.batch,I c.every,I c.now,Sl a5 c.heads.length c5,Sl aw xw.length cw]],[Sg b1 0 [I c.queue.most,Sl a4 c.queue.wait.length c4,I c.batch,I c.every,I c.now,Sl a5 c.heads.length c5,Sl aw xw.length cw]]] (Jn ?_)))))))
 subst hcw
 refine Wv (E:=Q6) 2 (hr1.mono (Ja hl2 hle)) (by exact (hs1).fit) (fun G5 hl5 hs7=>Wv (E:=KN) 1 (hr2.mono (Ja hle hl5)) (by exact (hs2.mono hl1).fit) (fun G6 hl6 hs8=>Wv (E:=Qw) 0 (hrw.mono (Ja hl5 hl6)) (by simp only [Qw];omega) (fun G7 hl7 hs9=>?_)))
 have hf1:c=(⟨c.queue,c.batch,c.every,c.now,c.heads,xw⟩:KT):=by
  have e_:xw=c.books:=Jkw hxw.1 hxw.2 (by omega);subst e_;rfl
 refine Jo [3] [.agg #[I c.queue.most,Sl a4 c.queue.wait.length c4,I c.batch,I c.every,I c.now,Sl a5 c.heads.length c5,Sl aw xw.length xw.length]] (JD [] (Ja (Ja (Ja (Ja (Ja hl1 hl2) hle) hl5) hl6) hl7) ?_)
 rw [hf1]
 try dsimp only
 exact ⟨a4,c4,a5,c5,aw,rfl,w1,(hs7.mono (Ja hl6 hl7)),w2,w3,w4,(hs8.mono hl7),hs9,rfl⟩
theorem JdF (G:J4) (vs_c:Bv) (c:KT) (h_c:Jay.R G vs_c c) (vs_a:Bv) (a:Zx) (h_a:Q6.R G vs_a a) :YL 103 #[.agg vs_c.toArray,.agg vs_a.toArray] G [] (fun u G' L'=>∃ (a1:Ba) (c2:Nat) (a3:Ba) (c4:Nat) (a5:Ba) (c6:Nat),u=.tuple #[.agg #[I (((KB c a).1).queue.most),Sl a1 ((((KB c a).1).queue.wait).length) c2,I (((KB c a).1).batch),I (((KB c a).1).every),I (((KB c a).1).now),Sl a3 ((((KB c a).1).heads).length) c4,Sl a5 ((((KB c a).1).books).length) c6],I ((KB c a).2.1),I ((KB c a).2.2)]∧(rI (((KB c a).1).queue.most))∧(RS Q6 G' a1 c2 (((KB c a).1).queue.wait))∧(rI (((KB c a).1).batch))∧(rI (((KB c a).1).every))∧(rI (((KB c a).1).now))∧(RS KN G' a3 c4 (((KB c a).1).heads))∧(RS Qw G' a5 c6 (((KB c a).1).books))∧(rI ((KB c a).2.1))∧L'=[]):=by
 obtain ⟨a1,c1,a2,c2,a3,c3,rfl,w1,hs1,w2,w3,w4,hs2,hs3⟩:=h_c
 obtain ⟨rfl,w5,w6,w7,w8⟩:=h_a
 refine JQ Tryz.func103 76 [(0,(QC c a1 c1 a2 c2 a3 c3)),(1,.agg #[Sr a.name,Sr a.value,U a.n,U a.tag])] rfl (fun w0 G0=>?_)
 refine Jf (Jd (Jv 2 #[I c.queue.most,Sl a1 c.queue.wait.length c1,I c.batch,I c.every,I c.now,Sl a2 c.heads.length c2,Sl a3 c.books.length c3] 60 (fun b1=>Jv 3 #[Sr a.name,Sr a.value,U a.n,U a.tag] 182 (fun b2=>Jv 4 #[I 0,Sl none 0 0,I 0,I 0,I 0,Sl none 0 0,Sl none 0 0] 60 (fun b3=>Jb [0,0] [] (Je (Jc (Jf (Jf (Jd (Jb [6] [(13,(QC c a1 c1 a2 c2 a3 c3))] (Jl 14 (I (Kh c)) (VC G (KW c a1 c1 a2 c2 a3 c3) c (⟨a1,c1,a2,c2,a3,c3,rfl,w1,hs1,w2,w3,w4,hs2,hs3⟩)) (Jb [0] [(7,I (Kh c))] (Je (Jc (Jg [0,0] [(16,Bo (!decide (Kh c=0)))] (Jm (!decide (Kh c=0)) (fun h1=>?_) (fun h1=>?_))))))))))))))))))
 refine Jg [0,0,3,0,0] [(5,I 0),(6,I (Kh c))] (Jn (Jj ?_))
 have hf1:KB c a=((⟨(⟨0,[]⟩:Q2),0,0,0,[],[]⟩:KT),0,Kh c):=by
  unfold KB Z8;(rw [if_pos ‹_›];done)
 refine Jo [0,0,0] [.agg #[I 0,Sl none 0 0,I 0,I 0,I 0,Sl none 0 0,Sl none 0 0],I 0,I (Kh c)] (JD [] (Jh _) ?_)
 rw [hf1]
 try dsimp only
 exact ⟨none,0,none,0,none,0,rfl,Kd,(J2 Q6 G),Kd,Kd,Kd,(J2 KN G),(J2 Qw G),Kd,rfl⟩
 refine Jq (Jc (Jf (Jd (Jb [0,6,4] [(21,.agg #[I c.queue.most,Sl a1 c.queue.wait.length c1]),(22,.agg #[Sr a.name,Sr a.value,U a.n,U a.tag])] (JM 23 (JhM G [I c.queue.most,Sl a1 c.queue.wait.length c1] c.queue (⟨a1,c1,rfl,w1,hs1⟩) [Sr a.name,Sr a.value,U a.n,U a.tag] a (⟨rfl,w5,w6,w7,w8⟩)) (fun v G1 L1 hl1 hp=>?_))))))
 obtain ⟨a4,c4,rfl,w9,hs4,rfl⟩:=hp
 refine Jb [0,0,0,0] [(24,.agg #[I (((JR c.queue a).1).most),Sl a4 ((((JR c.queue a).1).wait).length) c4]),(25,I ((JR c.queue a).2.1)),(26,I ((JR c.queue a).2.2))] (Jv 8 #[I 0,Sl none 0 0] 57 (fun b4=>JT [3,0,0] [(9,I ((JR c.queue a).2.1)),(10,I ((JR c.queue a).2.2))] [[Sg b4 0 [I (((JR c.queue a).1).most),Sl a4 ((((JR c.queue a).1).wait).length) c4]],[Sg b3 0 [I 0,Sl none 0 0,I 0,I 0,I 0,Sl none 0 0,Sl none 0 0]],[Sg b2 0 [Sr a.name,Sr a.value,U a.n,U a.tag]],[Sg b1 0 (KW c a1 c1 a2 c2 a3 c3)]] (Je (Jc (Jf (Jy (Jf (Jd (Jb [0,0,0] [(30,Bo (!decide ((JR c.queue a).2.2=0)))] (Kr (!decide ((JR c.queue a).2.2=0)) [30] [0,0,0] [1,1,0] (fun bb=>[(33,Bo (bb && (!decide ((JR c.queue a).2.2=7))))]) (Jb [0] [(27,Bo ((!decide ((JR c.queue a).2.2=0)) && (!decide ((JR c.queue a).2.2=7))))] (Je (Jc (Jm ((!decide ((JR c.queue a).2.2=0)) && (!decide ((JR c.queue a).2.2=7))) (fun h2=>?_) (fun h2=>?_)))))))))))))))
 refine Jg [0,0,5,0,0] [(5,I 0),(6,I ((JR c.queue a).2.2))] (Jn (Ju (Jj ?_)))
 have hf2:KB c a=((⟨(⟨0,[]⟩:Q2),0,0,0,[],[]⟩:KT),0,(JR c.queue a).2.2):=by
  unfold KB Z8;(rw [if_neg (by simp_all)];simp_all;done)
 refine Jo [1,0,0] [.agg #[I 0,Sl none 0 0,I 0,I 0,I 0,Sl none 0 0,Sl none 0 0],I 0,I ((JR c.queue a).2.2)] (JD [] hl1 ?_)
 rw [hf2]
 try dsimp only
 exact ⟨none,0,none,0,none,0,rfl,Kd,(J2 Q6 G1),Kd,Kd,Kd,(J2 KN G1),(J2 Qw G1),Kd,rfl⟩
 refine Jf (Jd (Jb [8] [(37,(QC c a1 c1 a2 c2 a3 c3))] (Jl 38 (Bo (Zo c)) (JeJ G1 (KW c a1 c1 a2 c2 a3 c3) c (⟨a1,c1,a2,c2,a3,c3,rfl,w1,(hs1.mono hl1),w2,w3,w4,(hs2.mono hl1),(hs3.mono hl1)⟩)) (Jb [0] [(36,Bo (Zo c))] (Je (Jc (Jm (Zo c) (fun h3=>?_) (fun h3=>?_))))))))
 refine Jg [0,5,0,0] [(5,I 0),(6,I 9)] (Jn (Ju (Jj ?_)))
 have hf3:KB c a=((⟨(⟨0,[]⟩:Q2),0,0,0,[],[]⟩:KT),0,9):=by
  unfold KB Z8;(rw [if_neg (by simp_all)];simp_all;done)
 refine Jo [1,0,0] [.agg #[I 0,Sl none 0 0,I 0,I 0,I 0,Sl none 0 0,Sl none 0 0],I 0,I 9] (JD [] hl1 ?_)
 rw [hf3]
 try dsimp only
 exact ⟨none,0,none,0,none,0,rfl,Kd,(J2 Q6 G1),Kd,Kd,Kd,(J2 KN G1),(J2 Qw G1),Kd,rfl⟩
 refine Jf (Jd (Jb [0,0,0] [(43,Bo (decide ((JR c.queue a).2.2=7)))] (QU [43] (decide ((JR c.queue a).2.2=7)) (fun h4=>?_) (fun h4=>?_))))
 refine Jb [1,1,1,1,1,1,0,0] [(40,Bo true)] (Je (Jc (J0 (Jg [0,5,0,0] [(5,I 0),(6,I 7)] (Jn (Ju (Jj ?_)))))))
 have hf4:KB c a=((⟨(⟨0,[]⟩:Q2),0,0,0,[],[]⟩:KT),0,7):=by
  unfold KB Z8;(rw [if_neg (by simp_all)];simp_all;done)
 refine Jo [1,0,0] [.agg #[I 0,Sl none 0 0,I 0,I 0,I 0,Sl none 0 0,Sl none 0 0],I 0,I 7] (JD [] hl1 ?_)
 rw [hf4]
 try dsimp only
 exact ⟨none,0,none,0,none,0,rfl,Kd,(J2 Q6 G1),Kd,Kd,Kd,(J2 KN G1),(J2 Qw G1),Kd,rfl⟩
 refine Jb [8,0,6] [(44,(QC c a1 c1 a2 c2 a3 c3)),(46,Sr a.name)] (Kq 47 1 #[Sr a.name] 9 (fun b5=>QK (b:=b5) (o:=0) (cs:=[Sr a.name]) 0 (fun G2 hl2 hz1=>?_)))
 have hs5:RS ES G2 (At b5 0) 1 [a.name]:=RS.lit [[Sr a.name]] [a.name] ⟨⟨rfl,w5⟩,trivial⟩ hz1 (Hg rfl) (Hg rfl)
 refine Jl 48 (I (W9 c ([a.name]))) (JbZ G2 (KW c a1 c1 a2 c2 a3 c3) c (⟨a1,c1,a2,c2,a3,c3,rfl,w1,(hs1.mono (Ja hl1 hl2)),w2,w3,w4,(hs2.mono (Ja hl1 hl2)),(hs3.mono (Ja hl1 hl2))⟩) (At b5 0) 1 ([a.name]) hs5 (by (have q_:=Zz ‹_›;(try dsimp only);omega)) (by (have q_:=Zz ‹_›;(try dsimp only);omega)) (by (have q_:=Zz ‹_›;(try dsimp only);omega)) (by (have q_:=Zz ‹_›;(try dsimp only);omega)) (by (simp;done))) (Jb [0,0,0] [(40,Bo (decide (W9 c ([a.name]) > 24)))] (Je (Jc (Jm (decide (W9 c ([a.name]) > 24)) (fun h5=>?_) (fun h5=>?_)))))
 refine Jg [0,7,0,0] [(5,I 0),(6,I 7)] (Jn (Ju (Jj ?_)))
 have hf5:KB c a=((⟨(⟨0,[]⟩:Q2),0,0,0,[],[]⟩:KT),0,7):=by
  unfold KB Z8;(rw [if_neg (by simp_all)];simp_all;done)
 refine Jo [2,0,0] [.agg #[I 0,Sl none 0 0,I 0,I 0,I 0,Sl none 0 0,Sl none 0 0],I 0,I 7] (JD [] (Ja hl1 hl2) ?_)
 rw [hf5]
 try dsimp only
 exact ⟨none,0,none,0,none,0,rfl,Kd,(J2 Q6 G2),Kd,Kd,Kd,(J2 KN G2),(J2 Qw G2),Kd,rfl⟩
 refine Jq (JN (Jc (Jf (Jd (Jb [10] [(52,(QC c a1 c1 a2 c2 a3 c3))] (JM 53 (JeK G2 (KW c a1 c1 a2 c2 a3 c3) c (⟨a1,c1,a2,c2,a3,c3,rfl,w1,(hs1.mono (Ja hl1 hl2)),w2,w3,w4,(hs2.mono (Ja hl1 hl2)),(hs3.mono (Ja hl1 hl2))⟩) (by (have q_:=Zz ‹_›;(try dsimp only);omega))) (fun v G3 L1 hl3 hp=>?_)))))))
 obtain ⟨a5,c5,a6,c6,a7,rfl,_,_,w11,w12,w13,hs7,hs8,rfl⟩:=hp
 refine JT [11] [] [[],[Sg b4 0 [I (((JR c.queue a).1).most),Sl a4 ((((JR c.queue a).1).wait).length) c4]],[Sg b3 0 [I 0,Sl none 0 0,I 0,I 0,I 0,Sl none 0 0,Sl none 0 0]],[Sg b2 0 [Sr a.name,Sr a.value,U a.n,U a.tag]],[Sg b1 0 (KW c a5 c5 a6 c6 a7 c.books.length)]] (Je (Jc (QB [4,0,11] [] [[],[Sg b4 0 [I (((JR c.queue a).1).most),Sl a4 ((((JR c.queue a).1).wait).length) c4]],[Sg b3 0 [I 0,Sl none 0 0,I 0,I 0,I 0,Sl none 0 0,Sl none 0 0]],[Sg b2 0 [Sr a.name,Sr a.value,U a.n,U a.tag]],[Sg b1 0 [I (((JR c.queue a).1).most),Sl a4 ((((JR c.queue a).1).wait).length) c4,I c.batch,I c.every,I c.now,Sl a6 c.heads.length c6,Sl a7 c.books.length c.books.length]]] (Jf (Jd (Jb [0,0,10,0,10] [(57,I ((JR c.queue a).2.1)),(59,I c.batch),(61,I c.every)] (Jl 62 (.tuple #[I ((Qr ((JR c.queue a).2.1) c.batch c.every).1),I ((Qr ((JR c.queue a).2.1) c.batch c.every).2)]) (Jgq G3 ((JR c.queue a).2.1) c.batch c.every) (Jb [0,0,0,0,0] [(11,I ((Qr ((JR c.queue a).2.1) c.batch c.every).1))] (Je (Jc (Jf ?_)))))))))))
 have e1:Hb.wrap (c.now-((c.now).tmod c.every))=c.now-((c.now).tmod c.every):=Ho _ (by (have q_:=Zz ‹_›;have q10_:=Jaj (n:=c.now) (e:=c.every) (by omega) (by omega);have q11_:=JfY (JR c.queue a).2.1 c.batch c.every;omega))
 have e2:Hb.wrap ((c.now-((c.now).tmod c.every))+((Qr ((JR c.queue a).2.1) c.batch c.every).1))=(c.now-((c.now).tmod c.every))+((Qr ((JR c.queue a).2.1) c.batch c.every).1):=Ho _ (by (have q_:=Zz ‹_›;have q10_:=Jaj (n:=c.now) (e:=c.every) (by omega) (by omega);have q11_:=JfY (JR c.queue a).2.1 c.batch c.every;omega))
 refine Kv [11] (Ws [(0,.agg #[I (((JR c.queue a).1).most),Sl a4 ((((JR c.queue a).1).wait).length) c4,I c.batch,I c.every,I c.now,Sl a6 c.heads.length c6,Sl a7 c.books.length c.books.length]),(1,Pt b1 4),(2,I c.now),(3,Pt b1 4),(4,I c.now),(5,Pt b1 3),(6,I c.every),(7,I ((c.now).tmod c.every)),(8,I (c.now-((c.now).tmod c.every))),(9,I ((Qr ((JR c.queue a).2.1) c.batch c.every).1)),(10,I ((c.now-((c.now).tmod c.every))+((Qr ((JR c.queue a).2.1) c.batch c.every).1)))] (JF [] [(0,10),(1,0),(2,10),(3,0),(4,10),(5,0),(6,10),(9,0)] [7,8,10] [11] (Kf ?_ (Kf ?_ (Kf ?_ KY))) (Kf ?_ KY)))
 refine Jr 7 72 (I ((c.now).tmod c.every)) [(69,I c.now),(71,I c.every)] (fun X=>?_)
 exact Jdc (k:=.i64) (x:=c.now) (y:=c.every) 72 false ((c.now).tmod c.every) (by (have q_:=Zz ‹_›;have q10_:=Jaj (n:=c.now) (e:=c.every) Kd (by omega);have q11_:=JfY (JR c.queue a).2.1 c.batch c.every;omega)) rfl Jp
 refine Jr 8 73 (I (c.now-((c.now).tmod c.every))) [(67,I c.now),(72,I ((c.now).tmod c.every))] (fun X=>?_)
 exact Qa 73 (I (Hb.wrap (c.now-((c.now).tmod c.every)))) (I (c.now-((c.now).tmod c.every))) (by simp only [e1]) Jp
 refine Jr 10 75 (I ((c.now-((c.now).tmod c.every))+((Qr ((JR c.queue a).2.1) c.batch c.every).1))) [(73,I (c.now-((c.now).tmod c.every))),(74,I ((Qr ((JR c.queue a).2.1) c.batch c.every).1))] (fun X=>?_)
 exact Qa 75 (I (Hb.wrap ((c.now-((c.now).tmod c.every))+((Qr ((JR c.queue a).2.1) c.batch c.every).1)))) (I ((c.now-((c.now).tmod c.every))+((Qr ((JR c.queue a).2.1) c.batch c.every).1))) (by simp only [e2]) Jp
 refine Jz 11 [(4,Pt b3 0),(65,.agg #[I (((JR c.queue a).1).most),Sl a4 ((((JR c.queue a).1).wait).length) c4,I c.batch,I c.every,I c.now,Sl a6 c.heads.length c6,Sl a7 c.books.length c.books.length])] (fun X=>?_)
 refine KA 2 [[],[Sg b4 0 [I (((JR c.queue a).1).most),Sl a4 ((((JR c.queue a).1).wait).length) c4]],[Sg b3 0 [I (((JR c.queue a).1).most),Sl a4 ((((JR c.queue a).1).wait).length) c4,I c.batch,I c.every,I c.now,Sl a6 c.heads.length c6,Sl a7 c.books.length c.books.length]],[Sg b2 0 [Sr a.name,Sr a.value,U a.n,U a.tag]],[Sg b1 0 [I (((JR c.queue a).1).most),Sl a4 ((((JR c.queue a).1).wait).length) c4,I c.batch,I c.every,I c.now,Sl a6 c.heads.length c6,Sl a7 c.books.length c.books.length]]] ?_
 have e3:Hb.wrap (c.now-((c.now).tmod c.every))=c.now-((c.now).tmod c.every):=Ho _ (by (have q_:=Zz ‹_›;have q10_:=Jaj (n:=c.now) (e:=c.every) (by omega) (by omega);have q11_:=JfY (JR c.queue a).2.1 c.batch c.every;omega))
 have e4:Hb.wrap ((c.now-((c.now).tmod c.every))+((Qr ((JR c.queue a).2.1) c.batch c.every).1))=(c.now-((c.now).tmod c.every))+((Qr ((JR c.queue a).2.1) c.batch c.every).1):=Ho _ (by (have q_:=Zz ‹_›;have q10_:=Jaj (n:=c.now) (e:=c.every) (by omega) (by omega);have q11_:=JfY (JR c.queue a).2.1 c.batch c.every;omega))
 refine J5 [(12,I ((c.now-((c.now).tmod c.every))+((Qr ((JR c.queue a).2.1) c.batch c.every).1))),(13,I 0)] (Ko [0] [(1,0),(2,10),(3,0),(4,10),(5,0),(6,10),(9,0),(12,0),(13,0)] [7,8,10] [(4,Pt b3 0),(5,I ((c.now-((c.now).tmod c.every))+((Qr ((JR c.queue a).2.1) c.batch c.every).1))),(6,I 0)] (Kf ?_ (Kf ?_ (Kf ?_ KY))) ?_)
 refine Jr 7 72 (I ((c.now).tmod c.every)) [(69,I c.now),(71,I c.every)] (fun X=>?_)
 exact Jdc (k:=.i64) (x:=c.now) (y:=c.every) 72 false ((c.now).tmod c.every) (by (have q_:=Zz ‹_›;have q10_:=Jaj (n:=c.now) (e:=c.every) Kd (by omega);have q11_:=JfY (JR c.queue a).2.1 c.batch c.every;omega)) rfl Jp
 refine Jr 8 73 (I (c.now-((c.now).tmod c.every))) [(67,I c.now),(72,I ((c.now).tmod c.every))] (fun X=>?_)
 exact Qa 73 (I (Hb.wrap (c.now-((c.now).tmod c.every)))) (I (c.now-((c.now).tmod c.every))) (by simp only [e3]) Jp
 refine Jr 10 75 (I ((c.now-((c.now).tmod c.every))+((Qr ((JR c.queue a).2.1) c.batch c.every).1))) [(73,I (c.now-((c.now).tmod c.every))),(74,I ((Qr ((JR c.queue a).2.1) c.batch c.every).1))] (fun X=>?_)
 exact Qa 75 (I (Hb.wrap ((c.now-((c.now).tmod c.every))+((Qr ((JR c.queue a).2.1) c.batch c.every).1)))) (I ((c.now-((c.now).tmod c.every))+((Qr ((JR c.queue a).2.1) c.batch c.every).1))) (by simp only [e4]) Jp
 refine Jc (Jn ?_)
 have hf6:KB c a=((⟨((JR c.queue a).1),c.batch,c.every,c.now,c.heads,c.books⟩:KT),(c.now-((c.now).tmod c.every))+((Qr ((JR c.queue a).2.1) c.batch c.every).1),0):=by
  unfold KB Z8;(rw [if_neg (by simp_all)];simp_all;done)
 refine Jo [2,0,0] [.agg #[I (((JR c.queue a).1).most),Sl a4 ((((JR c.queue a).1).wait).length) c4,I c.batch,I c.every,I c.now,Sl a6 c.heads.length c6,Sl a7 c.books.length c.books.length],I ((c.now-((c.now).tmod c.every))+((Qr ((JR c.queue a).2.1) c.batch c.every).1)),I 0] (JD [] (Ja (Ja hl1 hl2) hl3) ?_)
 rw [hf6]
 try dsimp only
 exact ⟨a4,c4,a6,c6,a7,c.books.length,rfl,w9,(hs4.mono (Ja hl2 hl3)),w11,w12,w13,hs7,hs8,(by (have q_:=Zz ‹_›;have q10_:=Jaj (n:=c.now) (e:=c.every) Kd (by omega);have q11_:=JfY (JR c.queue a).2.1 c.batch c.every;omega)),rfl⟩
set_option maxRecDepth 20000 in
theorem JgG (G:J4) (vs_c:Bv) (c:KT) (h_c:Jay.R G vs_c c) :YL 110 #[.agg vs_c.toArray] G [] (fun u G' L'=>∃ (a1:Ba) (c2:Nat) (a3:Ba) (c4:Nat) (a5:Ba) (c6:Nat),u=.tuple #[.agg #[I (((KV c).1).queue.most),Sl a1 ((((KV c).1).queue.wait).length) c2,I (((KV c).1).batch),I (((KV c).1).every),I (((KV c).1).now),Sl a3 ((((KV c).1).heads).length) c4,Sl a5 ((((KV c).1).books).length) c6],Bo ((KV c).2.1),I ((KV c).2.2)]∧(rI (((KV c).1).queue.most))∧(RS Q6 G' a1 c2 (((KV c).1).queue.wait))∧(rI (((KV c).1).batch))∧(rI (((KV c).1).every))∧(rI (((KV c).1).now))∧(RS KN G' a3 c4 (((KV c).1).heads))∧(RS Qw G' a5 c6 (((KV c).1).books))∧L'=[]):=by
 obtain ⟨a1,c1,a2,c2,a3,c3,rfl,w1,hs1,w2,w3,w4,hs2,hs3⟩:=h_c
 refine JQ Tryz.func110 88 [(0,(QC c a1 c1 a2 c2 a3 c3))] rfl (fun w0 G0=>?_)
 refine Jf (Jd (Jv 1 #[I c.queue.most,Sl a1 c.queue.wait.length c1,I c.batch,I c.every,I c.now,Sl a2 c.heads.length c2,Sl a3 c.books.length c3] 60 (fun b1=>Jv 2 #[I 0,Sl none 0 0,I 0,I 0,I 0,Sl none 0 0,Sl none 0 0] 60 (fun b2=>Jb [0,0] [] (Je (Jc (Jf (Jf (Jd (Jb [4] [(14,(QC c a1 c1 a2 c2 a3 c3))] (Jl 15 (I (Kh c)) (VC G (KW c a1 c1 a2 c2 a3 c3) c (⟨a1,c1,a2,c2,a3,c3,rfl,w1,hs1,w2,w3,w4,hs2,hs3⟩)) (Jb [0] [(5,I (Kh c))] (Je (Jc (Jg [0,0] [(17,Bo (!decide (Kh c=0)))] (Jm (!decide (Kh c=0)) (fun h1=>?_) (fun h1=>?_)))))))))))))))))
 refine Jg [0,0,3,0,0] [(3,Bo false),(4,I (Kh c))] (Jn (Jj ?_))
 have hf1:KV c=((⟨(⟨0,[]⟩:Q2),0,0,0,[],[]⟩:KT),false,Kh c):=by
  unfold KV Z8;(rw [if_pos ‹_›];done)
 refine Jo [0,0,0] [.agg #[I 0,Sl none 0 0,I 0,I 0,I 0,Sl none 0 0,Sl none 0 0],Bo false,I (Kh c)] (JD [] (Jh _) ?_)
 rw [hf1]
 try dsimp only
 exact ⟨none,0,none,0,none,0,rfl,Kd,(J2 Q6 G),Kd,Kd,Kd,(J2 KN G),(J2 Qw G),rfl⟩
 refine Jq (Jc (Jf (Jd (Jb [4] [(20,(QC c a1 c1 a2 c2 a3 c3))] (JM 21 (JeK G (KW c a1 c1 a2 c2 a3 c3) c (⟨a1,c1,a2,c2,a3,c3,rfl,w1,hs1,w2,w3,w4,hs2,hs3⟩) (by (have q_:=Zz ‹_›;(try dsimp only);omega))) (fun v G1 L1 hl1 hp=>?_))))))
 obtain ⟨a4,c4,a5,c5,a6,rfl,w5,hs4,w6,w7,w8,hs5,hs6,rfl⟩:=hp
 refine JT [5] [] [[Sg b2 0 [I 0,Sl none 0 0,I 0,I 0,I 0,Sl none 0 0,Sl none 0 0]],[Sg b1 0 (KW c a4 c4 a5 c5 a6 c.books.length)]] (Je (Jc (Jf (Jf (Jd (Jb [4] [(22,(QC c a4 c4 a5 c5 a6 c.books.length))] (Jl 23 (Bo (Zo c)) (JeJ G1 (KW c a4 c4 a5 c5 a6 c.books.length) c (⟨a4,c4,a5,c5,a6,c.books.length,rfl,w5,hs4,w6,w7,w8,hs5,hs6⟩)) (Je (Jc (Jm (Zo c) (fun h2=>?_) (fun h2=>?_)))))))))))
 refine QB [4,3,0,0] [(3,Bo false),(4,I 0)] [[Sg b2 0 (KW c a4 c4 a5 c5 a6 c.books.length)],[Sg b1 0 (KW c a4 c4 a5 c5 a6 c.books.length)]] (Jn (Jj ?_))
 have hf2:KV c=(c,false,0):=by
  unfold KV Z8;(rw [if_neg (by simp_all)];(rw [if_pos ‹_›];done))
 refine Jo [0,0,0] [(QC c a4 c4 a5 c5 a6 c.books.length),Bo false,I 0] (JD [] hl1 ?_)
 rw [hf2]
 try dsimp only
 exact ⟨a4,c4,a5,c5,a6,c.books.length,rfl,w5,hs4,w6,w7,w8,hs5,hs6,rfl⟩
 refine Jq (Jc (QB [0,4,0,0,5] [] [[Sg b2 0 [I 0,Sl none 0 0,I 0,I 0,I 0,Sl none 0 0,Sl none 0 0]],[Sg b1 0 [I c.queue.most,Sl a4 c.queue.wait.length c4,I c.batch,I c.every,I (Hb.wrap (c.now+1)),Sl a5 c.heads.length c5,Sl a6 c.books.length c.books.length]]] ?_))
 have e1:Hb.wrap (c.now+1)=c.now+1:=Ho _ (by (have q_:=Zz ‹_›;have q10_:=Jaj (n:=c.now+1) (e:=c.every) (by omega) (by omega);omega))
 refine JcN (L':=[[Sg b2 0 [I 0,Sl none 0 0,I 0,I 0,I 0,Sl none 0 0,Sl none 0 0]],[Sg b1 0 [I c.queue.most,Sl a4 c.queue.wait.length c4,I c.batch,I c.every,I (c.now+1),Sl a5 c.heads.length c5,Sl a6 c.books.length c.books.length]]]) (by simp only [KW,QC,e1];first | done | rfl) ?_
 clear e1
 refine Jf (Jf (Jd (Jb [0,4,0,4] [(30,I (c.now+1)),(32,I c.every)] (Jdc (k:=.i64) (x:=c.now+1) (y:=c.every) 33 false ((c.now+1).tmod c.every) (by (have q_:=Zz ‹_›;have q10_:=Jaj (n:=c.now+1) (e:=c.every) Kd (by omega);omega)) rfl (Jb [0] [(34,Bo (!decide ((c.now+1).tmod c.every=0)))] (Je (Jc (Jm (!decide ((c.now+1).tmod c.every=0)) (fun h3=>?_) (fun h3=>?_)))))))))
 refine QB [4,3,0,0] [(3,Bo false),(4,I 0)] [[Sg b2 0 [I c.queue.most,Sl a4 c.queue.wait.length c4,I c.batch,I c.every,I (c.now+1),Sl a5 c.heads.length c5,Sl a6 c.books.length c.books.length]],[Sg b1 0 [I c.queue.most,Sl a4 c.queue.wait.length c4,I c.batch,I c.every,I (c.now+1),Sl a5 c.heads.length c5,Sl a6 c.books.length c.books.length]]] (Jn (Jj ?_))
 have hf3:KV c=((⟨c.queue,c.batch,c.every,c.now+1,c.heads,c.books⟩:KT),false,0):=by
  unfold KV Z8;(rw [if_neg (by simp_all)];(rw [if_neg (by simp_all)];(rw [if_pos ‹_›];done)))
 refine Jo [0,0,0] [.agg #[I c.queue.most,Sl a4 c.queue.wait.length c4,I c.batch,I c.every,I (c.now+1),Sl a5 c.heads.length c5,Sl a6 c.books.length c.books.length],Bo false,I 0] (JD [] hl1 ?_)
 rw [hf3]
 try dsimp only
 exact ⟨a4,c4,a5,c5,a6,c.books.length,rfl,‹_›,hs4,‹_›,‹_›,(by have q_:=Zz ‹_›;(try dsimp only);omega),hs5,hs6,rfl⟩
 refine Jq (Jc (Jf (Jd (Jb [0,4,0,4] [(38,.agg #[I c.queue.most,Sl a4 c.queue.wait.length c4]),(40,I c.batch)] (JM 41 (Jgp G1 [I c.queue.most,Sl a4 c.queue.wait.length c4] c.queue (⟨a4,c4,rfl,‹_›,hs4⟩) c.batch) (fun v G2 L1 hl2 hp=>?_))))))
 obtain ⟨a7,c6,a8,c7,rfl,w9,hs7,hs8,rfl⟩:=hp
 refine Jb [0,0,0,0] [(42,.agg #[I (((J8 c.queue c.batch).1).most),Sl a7 ((((J8 c.queue c.batch).1).wait).length) c6]),(43,Sl a8 (((J8 c.queue c.batch).2.1).length) c7),(44,I ((J8 c.queue c.batch).2.2))] (Jv 6 #[I 0,Sl none 0 0] 57 (fun b3=>JT [3,0,0] [(7,Sl a8 (((J8 c.queue c.batch).2.1).length) c7)] [[Sg b3 0 [I (((J8 c.queue c.batch).1).most),Sl a7 ((((J8 c.queue c.batch).1).wait).length) c6]],[Sg b2 0 [I 0,Sl none 0 0,I 0,I 0,I 0,Sl none 0 0,Sl none 0 0]],[Sg b1 0 [I c.queue.most,Sl a4 c.queue.wait.length c4,I c.batch,I c.every,I (c.now+1),Sl a5 c.heads.length c5,Sl a6 c.books.length c.books.length]]] (Je (Jc (Jf (Jd (Jb [6] [(45,.agg #[I c.queue.most,Sl a4 c.queue.wait.length c4,I c.batch,I c.every,I (c.now+1),Sl a5 c.heads.length c5,Sl a6 c.books.length c.books.length])] (JM 46 (JfV G2 [I c.queue.most,Sl a4 c.queue.wait.length c4,I c.batch,I c.every,I (c.now+1),Sl a5 c.heads.length c5,Sl a6 c.books.length c.books.length] (⟨c.queue,c.batch,c.every,c.now+1,c.heads,c.books⟩:KT) (⟨a4,c4,a5,c5,a6,c.books.length,rfl,‹_›,(hs4.mono hl2),‹_›,‹_›,(by have q_:=Zz ‹_›;(try dsimp only);omega),(hs5.mono hl2),(hs6.mono hl2)⟩) (by (have q_:=Zz ‹_›;(try dsimp only);omega)) (by (have q_:=Zz ‹_›;(try dsimp only);omega))) (fun v G3 L1 hl3 hp=>?_)))))))))
 obtain ⟨a9,c8,rfl,hs9,rfl⟩:=hp
 refine JM 47 (YN G3 a9 c8 (Wz (⟨c.queue,c.batch,c.every,c.now+1,c.heads,c.books⟩:KT).books) hs9) (fun v G4 L1 hl4 hp=>?_)
 obtain ⟨a10,c9,r1,rfl,hr1,rfl⟩:=hp
 refine Jb [0] [(9,Sl a10 ((Wz (⟨c.queue,c.batch,c.every,c.now+1,c.heads,c.books⟩:KT).books).length) c9)] (Je (Jc (Jf (Jg [0,0,0] [(48,Sl a8 (((J8 c.queue c.batch).2.1).length) c7),(49,I (((J8 c.queue c.batch).2.1).length:Int)),(50,I 0)] (Jy ?_)))))
 have hlm_hs8:((J8 c.queue c.batch).2.1).length≤9223372036854775807:=Hf (hs8).le (hs8).max
 refine Qe (σ:=Nat×Ba×Nat×Bg×List Kb×J4) (fun q_=>(J4.le G4 q_.2.2.2.2.2)∧(q_.1≤((J8 c.queue c.batch).2.1).length)∧(JX QE q_.2.2.2.2.2 q_.2.1 q_.2.2.1 q_.2.2.2.2.1 q_.2.2.2.1)∧(q_.2.2.2.2.1=JbA (Wz c.books) ((J8 c.queue c.batch).2.1.take q_.1)∧q_.2.2.2.2.1.length≤1000)) (fun q_=>[(1,Pt b1 0),(2,Pt b2 0),(6,Pt b3 0),(9,Sl q_.2.1 q_.2.2.2.2.1.length q_.2.2.1),(48,Sl a8 (((J8 c.queue c.batch).2.1).length) c7),(49,I (((J8 c.queue c.batch).2.1).length:Int)),(50,I (q_.1:Int))]) (fun q_=>q_.2.2.2.2.2) (fun q_=>[q_.2.2.2.1,[Sg b3 0 [I (((J8 c.queue c.batch).1).most),Sl a7 ((((J8 c.queue c.batch).1).wait).length) c6]],[Sg b2 0 [I 0,Sl none 0 0,I 0,I 0,I 0,Sl none 0 0,Sl none 0 0]],[Sg b1 0 [I c.queue.most,Sl a4 c.queue.wait.length c4,I c.batch,I c.every,I (c.now+1),Sl a5 c.heads.length c5,Sl a6 c.books.length c.books.length]]]) (fun q_=>((J8 c.queue c.batch).2.1).length-q_.1) (0,a10,c9,r1,Wz (⟨c.queue,c.batch,c.every,c.now+1,c.heads,c.books⟩:KT).books,G4) ⟨(Jh _),(by (try dsimp only);exact Hs _),hr1,⟨rfl,by have q_:=Zz ‹_›;(try dsimp only);omega⟩⟩ (fun q_ hs=>?_)
 obtain ⟨i,aw,cw,rw,xw,g⟩:=q_
 obtain ⟨hle,hi,hrw,hxw⟩:=hs
 dsimp only at hle hi hrw hxw
 dsimp only
 refine Jg [0] [(51,Bo (decide ((i:Int)<(((J8 c.queue c.batch).2.1).length:Int))))] (Jf (Jm (decide ((i:Int)<(((J8 c.queue c.batch).2.1).length:Int))) (fun h4=>?_) (fun h4=>?_)))
 refine Jq (Jc (Jf (Jy (Jf (Jd ?_)))))
 obtain ⟨b4,o1,rfl⟩:=RS.addr (hs8.mono (Ja (Ja hl3 hl4) hle)) (k:=i) (by omega)
 obtain ⟨x1,hx1⟩:=QQ (l:=(J8 c.queue c.batch).2.1) (k:=i) (by omega)
 obtain ⟨_,⟨rfl,w10,w11,_,_⟩,hc1⟩:=RS.get (hs8.mono (Ja (Ja hl3 hl4) hle)) hx1
 refine JW (b:=b4) (off:=o1) (len:=((J8 c.queue c.batch).2.1).length) (cap:=c7) (ik:=.i64) 52 182 4 i Kd (JO 53 182 (cs:=[Sr x1.name,Sr x1.value,U x1.n,U x1.tag]) 0 (.agg #[Sr x1.name,Sr x1.value,U x1.n,U x1.tag]) hc1 (Jv 11 #[Sr ([]),Sr ([]),U 0,U 0] 182 (fun b5=>JT [3] [] [[Sg b5 0 [Sr x1.name,Sr x1.value,U x1.n,U x1.tag]],rw,[Sg b3 0 [I (((J8 c.queue c.batch).1).most),Sl a7 ((((J8 c.queue c.batch).1).wait).length) c6]],[Sg b2 0 [I 0,Sl none 0 0,I 0,I 0,I 0,Sl none 0 0,Sl none 0 0]],[Sg b1 0 [I c.queue.most,Sl a4 c.queue.wait.length c4,I c.batch,I c.every,I (c.now+1),Sl a5 c.heads.length c5,Sl a6 c.books.length c.books.length]]] (Je (Jc (Jd (Jb [0,0,2,0,2] [(55,Sl aw xw.length cw),(57,Sr x1.name),(59,Sr x1.value)] (WB (E:=QE) 1 hrw (by (have q0_:=hxw.2;simp only [QE];omega)) (fun G5 hl5 hs10=>JM 60 (JiT G5 aw cw xw hs10 x1.name w10 x1.value w11) (fun v G6 L1 hl6 hp=>?_))))))))))
 obtain ⟨a11,c10,r2,rfl,hr2,rfl⟩:=hp
 refine Jb [0,0,0,0] [(9,Sl a11 (((Qt xw x1.name x1.value).1).length) c10)] (Je (JN (Jc (Jd (Jb [0,0] [(50,I (Hb.wrap ((i:Int)+1)))] (Ku 50 ((i:Int)+1) Kd (Je (Jk 0 (Jk 1 (Jk 2 ?_))))))))))
 exact QA [r2,[Sg b3 0 [I (((J8 c.queue c.batch).1).most),Sl a7 ((((J8 c.queue c.batch).1).wait).length) c6]],[Sg b2 0 [I 0,Sl none 0 0,I 0,I 0,I 0,Sl none 0 0,Sl none 0 0]],[Sg b1 0 [I c.queue.most,Sl a4 c.queue.wait.length c4,I c.batch,I c.every,I (c.now+1),Sl a5 c.heads.length c5,Sl a6 c.books.length c.books.length]]] (Ql (i+1,a11,c10,r2,(Qt xw x1.name x1.value).1,G6) ⟨(Ja hle (Ja hl5 hl6)),Kd,hr2,⟨by rw [hxw.1];exact Ji9 hx1,Hf (JiS _ _ _) (by decide)⟩⟩ (by (try dsimp only);omega))
 refine KX (J1 (Ke (JV (Jc (Jf (Jd (Jb [0] [(65,Sl aw xw.length cw)] (WB (E:=QE) 0 hrw (by (have q0_:=hxw.2;simp only [QE];omega)) (fun G7 hl7 hs11=>Jl 66 (.tuple #[U ((JY xw []).1),I ((JY xw []).2)]) (Jbw G7 aw cw xw hs11) (Jb [0,0,0,0,0] [(12,U ((JY xw []).1))] (Je (Jc (Jf (Kv [4,5,7,9] (Ws [(0,.agg #[I (((J8 c.queue c.batch).1).most),Sl a7 ((((J8 c.queue c.batch).1).wait).length) c6]),(1,Pt b1 6),(2,Sl a6 c.books.length c.books.length),(3,Sl aw xw.length cw),(6,Pt b1 0)] (JF [] [(0,4),(1,0),(2,8),(3,0),(6,0)] [] [4] (Ha _) (Kf ?_ KY)))))))))))))))))
 refine Jz 4 [(72,Sl aw xw.length cw)] (fun X=>?_)
 refine Kq 73 1 #[Sl aw xw.length cw] 44 (fun b6=>JA [(4,Sl (At b6 0) 1 1)] (JF [3] [(0,6),(1,0),(2,10),(6,0)] [] [5] (Ha _) (Kf ?_ KY)))
 refine Jz 5 [(71,Sl a6 c.books.length c.books.length),(73,Sl (At b6 0) 1 1)] (fun X=>?_)
 refine Jks (E:=Qw) (b:=b6) (cs:=[Sl aw xw.length cw]) 74 44 0 xw (hs6.mono (Ja (Ja (Ja (Ja hl2 hl3) hl4) hle) hl7)) (⟨aw,cw,rfl,hs11⟩) (by (have q_:=Zz ‹_›;(try simp only [Hc,He,Hh]);omega)) (by (have q_:=Zz ‹_›;simp only [Qw,Hc,He,Hh];omega)) (fun a12 c11 r3 hr3=>JA [(5,Sl a12 ((c.books++[xw]).length) c11)] (JF [1,2,3] [(0,8),(6,0)] [] [7] (Ha _) (Kf ?_ KY)))
 refine Jz 7 [(69,.agg #[I (((J8 c.queue c.batch).1).most),Sl a7 ((((J8 c.queue c.batch).1).wait).length) c6]),(75,Pt b1 0)] (fun X=>?_)
 refine KA 5 [r3,[Sg b6 0 [Sl aw xw.length cw]],[],[Sg b3 0 [I (((J8 c.queue c.batch).1).most),Sl a7 ((((J8 c.queue c.batch).1).wait).length) c6]],[Sg b2 0 [I 0,Sl none 0 0,I 0,I 0,I 0,Sl none 0 0,Sl none 0 0]],[Sg b1 0 [I (((J8 c.queue c.batch).1).most),Sl a7 ((((J8 c.queue c.batch).1).wait).length) c6,I c.batch,I c.every,I (c.now+1),Sl a5 c.heads.length c5,Sl a6 c.books.length c.books.length]]] (J5 [(8,Pt b1 6)] (JF [0,1,2,3,6] [(8,0)] [] [9] (Ha _) (Kf ?_ KY)))
 refine Jz 9 [(74,Sl a12 ((c.books++[xw]).length) c11),(76,Pt b1 6)] (fun X=>?_)
 refine KA 5 [r3,[Sg b6 0 [Sl aw xw.length cw]],[],[Sg b3 0 [I (((J8 c.queue c.batch).1).most),Sl a7 ((((J8 c.queue c.batch).1).wait).length) c6]],[Sg b2 0 [I 0,Sl none 0 0,I 0,I 0,I 0,Sl none 0 0,Sl none 0 0]],[Sg b1 0 [I (((J8 c.queue c.batch).1).most),Sl a7 ((((J8 c.queue c.batch).1).wait).length) c6,I c.batch,I c.every,I (c.now+1),Sl a5 c.heads.length c5,Sl a12 ((c.books++[xw]).length) c11]]] (J5 [] (Ko [0,1,2,3,6,8] [] [] [(1,Pt b1 0),(2,Pt b2 0),(12,U ((JY xw []).1))] (Ha _) (Jc (Jf (Jd (Jb [0,12,0,0,12] [(79,Sl a5 c.heads.length c5),(80,U ((JY xw []).1)),(82,I (c.now+1))] (JM 83 (Jgw G7 a5 c5 c.heads (hs5.mono (Ja (Ja (Ja (Ja hl2 hl3) hl4) hle) hl7)) ((JY xw []).1) (Vi _ _) (c.now+1) (by have q_:=Zz ‹_›;(try dsimp only);omega)) (fun v G8 L1 hl8 hp=>?_))))))))
 obtain ⟨a13,c12,r4,rfl,hr4,rfl⟩:=hp
 refine JT [0,0,0,0,15] [] [r4,r3,[Sg b6 0 [Sl aw xw.length cw]],[],[Sg b3 0 [I (((J8 c.queue c.batch).1).most),Sl a7 ((((J8 c.queue c.batch).1).wait).length) c6]],[Sg b2 0 [I 0,Sl none 0 0,I 0,I 0,I 0,Sl none 0 0,Sl none 0 0]],[Sg b1 0 [I (((J8 c.queue c.batch).1).most),Sl a7 ((((J8 c.queue c.batch).1).wait).length) c6,I c.batch,I c.every,I (c.now+1),Sl a13 (((Qz c.heads ((JY xw []).1) (c.now+1)).1).length) c12,Sl a12 ((c.books++[xw]).length) c11]]] (Je (Jc (QB [14,13,0,0] [(3,Bo true),(4,I 0)] [r4,r3,[Sg b6 0 [Sl aw xw.length cw]],[],[Sg b3 0 [I (((J8 c.queue c.batch).1).most),Sl a7 ((((J8 c.queue c.batch).1).wait).length) c6]],[Sg b2 0 [I (((J8 c.queue c.batch).1).most),Sl a7 ((((J8 c.queue c.batch).1).wait).length) c6,I c.batch,I c.every,I (c.now+1),Sl a13 (((Qz c.heads ((JY xw []).1) (c.now+1)).1).length) c12,Sl a12 ((c.books++[xw]).length) c11]],[Sg b1 0 [I (((J8 c.queue c.batch).1).most),Sl a7 ((((J8 c.queue c.batch).1).wait).length) c6,I c.batch,I c.every,I (c.now+1),Sl a13 (((Qz c.heads ((JY xw []).1) (c.now+1)).1).length) c12,Sl a12 ((c.books++[xw]).length) c11]]] (Jn (Wv (E:=KN) 0 hr4 (by (have q_:=JgF c.heads ((JY xw []).1) (c.now+1);simp only [KN];omega)) (fun G9 hl9 hs12=>Wv (E:=Qw) 1 (hr3.mono (Ja hl8 hl9)) (by (have q_:=Zz ‹_›;simp only [Qw,Hc,He,Hh];omega)) (fun G10 hl10 hs13=>?_)))))))
 have hf4:KV c=((⟨((J8 c.queue c.batch).1),c.batch,c.every,c.now+1,(Qz c.heads ((JY xw []).1) (c.now+1)).1,(c.books++[xw])⟩:KT),true,0):=by
  unfold KV Z8;(rw [if_neg (by simp_all)];(rw [if_neg (by simp_all)];(rw [if_neg (by simp_all)];have e_:xw=V2 c:=(by rw [hxw.1,Hk (by omega)];rfl);rw [← e_])))
 refine Jo [5,0,0] [.agg #[I (((J8 c.queue c.batch).1).most),Sl a7 ((((J8 c.queue c.batch).1).wait).length) c6,I c.batch,I c.every,I (c.now+1),Sl a13 (((Qz c.heads ((JY xw []).1) (c.now+1)).1).length) c12,Sl a12 ((c.books++[xw]).length) c11],Bo true,I 0] (JD [] (Ja (Ja (Ja (Ja (Ja (Ja (Ja (Ja hl1 hl2) hl3) hl4) hle) hl7) hl8) hl9) hl10) ?_)
 rw [hf4]
 try dsimp only
 exact ⟨a7,c6,a13,c12,a12,c11,rfl,w9,(hs7.mono (Ja (Ja (Ja (Ja (Ja (Ja hl3 hl4) hle) hl7) hl8) hl9) hl10)),‹_›,‹_›,(by have q_:=Zz ‹_›;(try dsimp only);omega),(hs12.mono hl10),hs13,rfl⟩
def Jeh:Q5:=⟨Zy,Jeb⟩
def JL (c:KT) (name:Bb) (epoch:Int):Q5×Int:=if ¬ (KF c epoch).2=0 then (Jeh,(KF c epoch).2) else if ¬ (Qb (KF c epoch).1 name).2=0 then (Jeh,(Qb (KF c epoch).1 name).2) else (⟨c.heads[epoch.toNat]?.getD Zy,(Qb (KF c epoch).1 name).1⟩,0)
theorem VU (G:J4) (vs_c:Bv) (c:KT) (h_c:Jay.R G vs_c c) (name:Bb) (hw_name:(name).length≤140737488351232) (epoch:Int) (hw_epoch:rI epoch) :YL 141 #[.agg vs_c.toArray,Sr name,I epoch] G [] (fun u G' L'=>∃ (a1:Ba) (c2:Nat) (a3:Ba) (c4:Nat),u=.tuple #[.agg #[I (((JL c name epoch).1).head.epoch),U (((JL c name epoch).1).head.root),U (((JL c name epoch).1).head.prev),I (((JL c name epoch).1).head.at_),Sr (((JL c name epoch).1).proof.name),Sl a1 ((((JL c name epoch).1).proof.entries).length) c2,Sl a3 ((((JL c name epoch).1).proof.sides).length) c4],I ((JL c name epoch).2)]∧(rI (((JL c name epoch).1).head.epoch))∧(rU (((JL c name epoch).1).head.root))∧(rU (((JL c name epoch).1).head.prev))∧(rI (((JL c name epoch).1).head.at_))∧((((JL c name epoch).1).proof.name).length≤140737488351232)∧(RS QE G' a1 c2 (((JL c name epoch).1).proof.entries))∧(RS EU G' a3 c4 (((JL c name epoch).1).proof.sides))∧L'=[]):=by
 obtain ⟨a1,c1,a2,c2,a3,c3,rfl,w1,hs1,w2,w3,w4,hs2,hs3⟩:=h_c
 refine JQ Tryz.func141 38 [(0,(QC c a1 c1 a2 c2 a3 c3)),(1,Sr name),(2,I epoch)] rfl (fun w0 G0=>?_)
 refine Jf (Jd (Jv 3 #[I c.queue.most,Sl a1 c.queue.wait.length c1,I c.batch,I c.every,I c.now,Sl a2 c.heads.length c2,Sl a3 c.books.length c3] 60 (fun b1=>Jv 6 #[I 0,U 0,U 0,I 0,Sr ([]),Sl none 0 0,Sl none 0 0] 49 (fun b2=>Jb [0] [] (Je (Jc (Jf (Jd (Jb [4,0] [(12,(QC c a1 c1 a2 c2 a3 c3)),(13,I epoch)] (JM 14 (JgE G (KW c a1 c1 a2 c2 a3 c3) c (⟨a1,c1,a2,c2,a3,c3,rfl,w1,hs1,w2,w3,w4,hs2,hs3⟩) epoch hw_epoch) (fun v G1 L1 hl1 hp=>?_)))))))))))
 obtain ⟨a4,c4,_,rfl,hr1,rfl⟩:=hp
 refine Jb [0,0,0,0,0] [(8,Sl a4 (((KF c epoch).1).length) c4),(9,I ((KF c epoch).2))] (Je (Jc (Jf (Jg [0,0] [(18,Bo (!decide ((KF c epoch).2=0)))] (Jm (!decide ((KF c epoch).2=0)) (fun h1=>?_) (fun h1=>?_))))))
 refine Jg [0,0,5,0] [(7,I ((KF c epoch).2))] (Jn (Jj ?_))
 have hf1:JL c name epoch=((⟨(⟨0,0,0,0⟩:JU),(⟨[],[],[]⟩:Q4)⟩:Q5),(KF c epoch).2):=by
  unfold JL Jeh;(rw [if_pos ‹_›];rfl)
 refine Jo [1,0] [.agg #[I 0,U 0,U 0,I 0,Sr ([]),Sl none 0 0,Sl none 0 0],I ((KF c epoch).2)] (JD [] hl1 ?_)
 rw [hf1]
 try dsimp only
 exact ⟨none,0,none,0,rfl,Kd,Kd,Kd,Kd,(Hg rfl),(J2 QE G1),(J2 EU G1),rfl⟩
 refine Jq (Jc (Jf (Jd (Jb [0,0] [(22,Sl a4 (((KF c epoch).1).length) c4),(23,Sr name)] (WB (E:=QE) 0 hr1 (by have q_:=Jop c epoch;simp only [QE];omega) (fun G2 hl2 hs4=>JM 24 (Jgt G2 a4 c4 ((KF c epoch).1) hs4 name hw_name) (fun v G3 L1 hl3 hp=>?_)))))))
 obtain ⟨a5,c5,a6,c6,rfl,w5,hs5,hs6,rfl⟩:=hp
 refine Jb [0,0,0] [(25,(V6 (Qb ((KF c epoch).1) name).1 a5 c5 a6 c6)),(26,I ((Qb ((KF c epoch).1) name).2))] (Jv 10 #[Sr ([]),Sl none 0 0,Sl none 0 0] 47 (fun b3=>JT [3,0] [(9,I ((Qb ((KF c epoch).1) name).2))] [[Sg b3 0 (VO (Qb ((KF c epoch).1) name).1 a5 c5 a6 c6)],[],[Sg b2 0 [I 0,U 0,U 0,I 0,Sr ([]),Sl none 0 0,Sl none 0 0]],[Sg b1 0 (KW c a1 c1 a2 c2 a3 c3)]] (Je (Jc (Jf (Jg [0,0] [(28,Bo (!decide ((Qb ((KF c epoch).1) name).2=0)))] (Jm (!decide ((Qb ((KF c epoch).1) name).2=0)) (fun h2=>?_) (fun h2=>?_))))))))
 refine Jg [0,0,7,0] [(7,I ((Qb ((KF c epoch).1) name).2))] (Jn (Jj ?_))
 have hf2:JL c name epoch=((⟨(⟨0,0,0,0⟩:JU),(⟨[],[],[]⟩:Q4)⟩:Q5),(Qb ((KF c epoch).1) name).2):=by
  unfold JL Jeh;(rw [if_neg (by omega)];(rw [if_pos ‹_›];rfl))
 refine Jo [2,0] [.agg #[I 0,U 0,U 0,I 0,Sr ([]),Sl none 0 0,Sl none 0 0],I ((Qb ((KF c epoch).1) name).2)] (JD [] (Ja (Ja hl1 hl2) hl3) ?_)
 rw [hf2]
 try dsimp only
 exact ⟨none,0,none,0,rfl,Kd,Kd,Kd,Kd,(Hg rfl),(J2 QE G3),(J2 EU G3),rfl⟩
 refine Jq (Jc ?_)
 obtain ⟨kn1,hkn1⟩:∃ k_:Nat,epoch=(k_:Int):=⟨(epoch).toNat,by (have q_:=JdD (c:=c) ‹_›;have q1_:=q_.1.len;omega)⟩
 have e1:epoch=(kn1:Int):=hkn1
 refine QW 2 (I (kn1:Int)) (congrArg I e1) (Jf ?_)
 obtain ⟨b4,o1,rfl⟩:=RS.addr (hs2.mono (Ja (Ja hl1 hl2) hl3)) (k:=kn1) (by (have q_:=JdD (c:=c) ‹_›;have q1_:=q_.1.len;omega))
 obtain ⟨x1,hx1⟩:=QQ (l:=c.heads) (k:=kn1) (by (have q_:=JdD (c:=c) ‹_›;have q1_:=q_.1.len;omega))
 obtain ⟨_,⟨rfl,w6,w7,w8,w9⟩,hc1⟩:=RS.get (hs2.mono (Ja (Ja hl1 hl2) hl3)) hx1
 refine Kv [7] (Ws [(0,Pt b1 5),(1,Sl (At b4 o1) c.heads.length c2),(2,I (kn1:Int)),(3,Pt b4 (o1+kn1*4)),(4,.agg #[I x1.epoch,U x1.root,U x1.prev,I x1.at_]),(5,(V6 (Qb ((KF c epoch).1) name).1 a5 c5 a6 c6)),(6,(WU (⟨x1,(Qb ((KF c epoch).1) name).1⟩:Q5) a5 c5 a6 c6))] (JF [] [(0,0),(1,8),(2,0),(5,2),(6,0)] [3,4] [7] (Kf ?_ (Kf ?_ KY)) (Kf ?_ KY)))
 refine Jr 3 34 (Pt b4 (o1+kn1*4)) [(32,Sl (At b4 o1) c.heads.length c2),(33,I (kn1:Int))] (fun X=>?_)
 exact JW (b:=b4) (off:=o1) (len:=c.heads.length) (cap:=c2) (ik:=.i64) 34 43 4 kn1 (by (have q_:=JdD (c:=c) ‹_›;have q1_:=q_.1.len;omega)) Jp
 refine Jr 4 35 (.agg #[I x1.epoch,U x1.root,U x1.prev,I x1.at_]) [(34,Pt b4 (o1+kn1*4))] (fun X=>?_)
 exact JO 35 43 (cs:=[I x1.epoch,U x1.root,U x1.prev,I x1.at_]) 0 (.agg #[I x1.epoch,U x1.root,U x1.prev,I x1.at_]) hc1 Jp
 refine Jz 7 [(6,Pt b2 0),(37,(WU (⟨x1,(Qb ((KF c epoch).1) name).1⟩:Q5) a5 c5 a6 c6))] (fun X=>?_)
 refine KA 2 [[Sg b3 0 (VO (Qb ((KF c epoch).1) name).1 a5 c5 a6 c6)],[],[Sg b2 0 (ZI (⟨x1,(Qb ((KF c epoch).1) name).1⟩:Q5) a5 c5 a6 c6)],[Sg b1 0 (KW c a1 c1 (At b4 o1) c2 a3 c3)]] (J5 [(8,I 0)] (Ko [0,1,2,3,4,5,6] [(8,0)] [] [(6,Pt b2 0),(7,I 0)] (Ha _) (Jc (Jn ?_))))
 have hf3:JL c name epoch=((⟨x1,((Qb ((KF c epoch).1) name).1)⟩:Q5),0):=by
  unfold JL Jeh;(rw [if_neg (by omega)];(rw [if_neg (by simp_all)];simp_all;done))
 refine Jo [2,0] [(WU (⟨x1,(Qb ((KF c epoch).1) name).1⟩:Q5) a5 c5 a6 c6),I 0] (JD [] (Ja (Ja hl1 hl2) hl3) ?_)
 rw [hf3]
 try dsimp only
 exact ⟨a5,c5,a6,c6,rfl,w6,w7,w8,w9,w5,hs5,hs6,rfl⟩
def ZJ (c:KT) (a b:Int):List JU×Int:=if ¬ Kh c=0 then ([],Kh c) else Zb c.heads a b
set_option maxHeartbeats 1600000 in
theorem JfZ (G:J4) (vs_c:Bv) (c:KT) (h_c:Jay.R G vs_c c) (a:Int) (hw_a:rI a) (b:Int) (hw_b:rI b) :YL 167 #[.agg vs_c.toArray,I a,I b] G [] (fun u G' L'=>∃ (a1:Ba) (c2:Nat),u=.tuple #[Sl a1 (((ZJ c a b).1).length) c2,I ((ZJ c a b).2)]∧(RS KN G' a1 c2 ((ZJ c a b).1))∧L'=[]):=by
 obtain ⟨a1,c1,a2,c2,a3,c3,rfl,w1,hs1,w2,w3,w4,hs2,hs3⟩:=h_c
 refine JQ Tryz.func167 21 [(0,(QC c a1 c1 a2 c2 a3 c3)),(1,I a),(2,I b)] rfl (fun w0 G0=>?_)
 refine Jf (Jd (Jv 3 #[I c.queue.most,Sl a1 c.queue.wait.length c1,I c.batch,I c.every,I c.now,Sl a2 c.heads.length c2,Sl a3 c.books.length c3] 60 (fun b1=>Jb [0,0] [] (Je (Jc (Jf (Jf (Jd (Jb [2] [(9,(QC c a1 c1 a2 c2 a3 c3))] (Jl 10 (I (Kh c)) (VC G (KW c a1 c1 a2 c2 a3 c3) c (⟨a1,c1,a2,c2,a3,c3,rfl,w1,hs1,w2,w3,w4,hs2,hs3⟩)) (Jb [0] [(8,I (Kh c))] (Je (Jc (Jg [0,0] [(12,Bo (!decide (Kh c=0)))] (Jm (!decide (Kh c=0)) (fun h1=>?_) (fun h1=>?_))))))))))))))))
 refine Jg [0,0,0] [(6,Sl none 0 0),(7,I (Kh c))] (Jn (Jj ?_))
 have hf1:ZJ c a b=([],Kh c):=by
  unfold ZJ;(rw [if_pos ‹_›];done)
 refine Jo [0,0] [Sl none 0 0,I (Kh c)] (JD [] (Jh _) ?_)
 rw [hf1]
 try dsimp only
 exact ⟨none,0,rfl,(J2 KN G),rfl⟩
 refine Jq (Jc (Jf (Jd (Jb [0,2,0,0] [(15,Sl a2 c.heads.length c2),(16,I a),(17,I b)] (JM 18 (Jgx G a2 c2 c.heads hs2 a hw_a b hw_b) (fun v G1 L1 hl1 hp=>?_))))))
 obtain ⟨a4,c4,rfl,hs4,rfl⟩:=hp
 refine Jb [0,0,0,0] [(6,Sl a4 (((Zb c.heads a b).1).length) c4),(7,I ((Zb c.heads a b).2))] (Je (Jc (Jn ?_)))
 have hf2:ZJ c a b=((Zb c.heads a b).1,(Zb c.heads a b).2):=by
  unfold ZJ;(rw [if_neg (by omega)];done)
 refine Jo [0,0] [Sl a4 (((Zb c.heads a b).1).length) c4,I ((Zb c.heads a b).2)] (JD [] hl1 ?_)
 rw [hf2]
 try dsimp only
 exact ⟨a4,c4,rfl,hs4,rfl⟩
def Vk (p:We):Prop:=1≤p.least∧p.least≤p.most∧p.most≤1000∧1≤p.lost∧p.lost≤100∧p.least≤p.gap∧p.gap≤p.most∧0≤p.next∧p.next≤1000000000∧0≤p.asked∧p.asked≤1000000
instance (p:We):Decidable (Vk p):=inferInstanceAs (Decidable (_∧_))
def KL (p:We):Int:=if Vk p then 0 else 4
theorem ZD (p:We):KL p=0 ↔ Vk p:=by unfold KL;split <;> simp_all
theorem Jh0 (p:We):KL p=0∨KL p=4:=by unfold KL;split <;> simp
theorem JbC {p:We} (h:Vk p):KL p=0:=if_pos h
theorem JcD {p:We} (h:¬ Vk p):KL p=4:=if_neg h
def KO (p:We) (now:Int):Int:=if KL p=0∧(now<0∨1000000000<now) then 4 else KL p
theorem JcY (p:We) (now:Int):KO p now=0 ↔ (Vk p∧0≤now∧now≤1000000000):=by
 rw [← ZD];unfold KO;have:=Jh0 p;split <;> omega
theorem Jb0 {p:We} {now:Int} (h:KO p now=0):1≤p.least∧p.least≤p.most∧p.most≤1000∧1≤p.lost∧p.lost≤100∧p.least≤p.gap∧p.gap≤p.most∧0≤p.next∧p.next≤1000000000∧0≤p.asked∧p.asked≤1000000∧0≤now∧now≤1000000000:=by
 have:=(JcY p now).1 h;unfold Vk at this;omega
def K3 (now n:Int):Int:=if 1000000000<now+n then 1000000000 else now+n
def VL:We:=⟨0,0,0,0,0,0⟩
def KP (p:We) (now:Int):We×Int :=
 if KO p now ≠ 0 then (VL,KO p now) else if now<p.next then (VL,9) else if p.asked=1000000 then (VL,7) else
 (⟨p.least,p.most,p.lost,if p.most<2*p.gap then p.most else 2*p.gap,K3 now p.gap,p.asked+1⟩,0)
def KR (least top lost:Int):We×Int:=if Vk ⟨least,top,lost,least,0,0⟩ then (⟨least,top,lost,least,0,0⟩,0) else (VL,4)
def Wa (p:We) (now:Int):We×Int :=
 if KO p now ≠ 0 then (VL,KO p now) else
 (⟨p.least,p.most,p.lost,p.least,if K3 now p.least<p.next then K3 now p.least else p.next,0⟩,0)
theorem JeL {p:We} {now:Int} (h:(KP p now).2=0) :
  1≤p.least∧p.least≤p.most∧p.most≤1000∧1≤p.lost∧p.lost≤100∧p.least≤p.gap∧p.gap≤p.most∧0≤p.next∧p.next≤1000000000∧0≤p.asked∧p.asked<1000000∧0≤now∧now≤1000000000∧p.next≤now ∧
  KL (KP p now).1=0∧(KP p now).1.least=p.least∧(KP p now).1.most=p.most∧(KP p now).1.lost=p.lost∧(KP p now).1.asked=p.asked+1 ∧
  (p.most<2*p.gap∧(KP p now).1.gap=p.most∨2*p.gap≤p.most∧(KP p now).1.gap=2*p.gap) ∧
  (1000000000<now+p.gap∧(KP p now).1.next=1000000000∨now+p.gap≤1000000000∧(KP p now).1.next=now+p.gap):=by
 unfold KP at h ⊢
 split at h
 · contradiction
 split at h
 · cases h
 split at h
 · cases h
 rename_i h1 h2 h3
 have hb:=Jb0 (p:=p) (now:=now) (by omega)
 rw [if_neg h1,if_neg h2,if_neg h3]
 dsimp only
 refine ⟨by omega,by omega,by omega,by omega,by omega,by omega,by omega,by omega,by omega,by omega,by omega,by omega,by omega,by omega,JbC ?_,rfl,rfl,rfl,rfl,?_,?_⟩
 · unfold Vk K3;simp only;(repeat' split) <;> omega
 · split <;> omega
 · unfold K3;split <;> omega
theorem Jh1 {p:We} {now:Int} (h:(KP p now).2 ≠ 0):(KP p now).1=VL:=by
 revert h;unfold KP;(repeat' split) <;> simp
theorem Jh2 {p:We} {now:Int} (h:(Wa p now).2=0):KO p now=0∧Wa p now=(⟨p.least,p.most,p.lost,p.least,if K3 now p.least<p.next then K3 now p.least else p.next,0⟩,0):=by
 revert h;unfold Wa;split
 · intro h;exact absurd h ‹_›
 · intro _;exact ⟨by omega,rfl⟩
theorem Jf0 {a b c:Int} (h:(KR a b c).2=0):Vk ⟨a,b,c,a,0,0⟩∧KR a b c=(⟨a,b,c,a,0,0⟩,0):=by
 revert h;unfold KR;split
 · rename_i h1;intro _;exact ⟨h1,rfl⟩
 · simp
theorem Jjd {a b c:Int} (h:(KR a b c).2 ≠ 0):(KR a b c).1=VL:=by
 revert h;unfold KR;split <;> simp
def Jbh (p:We):Bool:=decide (KL p=0) && decide (p.asked ≥ p.lost)
def ZK (p:We) (now:Int):Bool×Int:=(decide (KO p now=0) && decide (now ≥ p.next),KO p now)
def Wn (p:We):Bool×Int:=(Jbh p,KL p)
theorem JaZ (G:J4) (vs_p:Bv) (p:We) (h_p:WJ.R G vs_p p) :Q3 100 #[.agg vs_p.toArray] G (I (KL p)):=by
 obtain ⟨rfl,_,_,_,_,_,_⟩:=h_p
 refine JQ Tryz.func100 62 [(0,.agg #[I p.least,I p.most,I p.lost,I p.gap,I p.next,I p.asked])] rfl (fun w0 G0=>?_)
 refine Jf (Jd (Jv 1 #[I p.least,I p.most,I p.lost,I p.gap,I p.next,I p.asked] 143 (fun b1=>Jb [0] [] (Je (Jc (Jf (Jf (Jd (Jb [0,2,0,0] [(6,Bo (decide (p.least<1)))] (Kr (decide (p.least<1)) [6] [1,1,1,1,1,0] [0,2,0,2,0,0] (fun bb=>[(12,Bo (bb || (decide (p.least > p.most))))]) (Jb [0] [(13,Bo ((decide (p.least<1)) || (decide (p.least > p.most))))] (Kr ((decide (p.least<1)) || (decide (p.least > p.most))) [13] [1,1,1,0] [0,2,0,0] (fun bb=>[(17,Bo (bb || (decide (p.most > 1000))))]) (Jb [0] [(18,Bo (((decide (p.least<1)) || (decide (p.least > p.most))) || (decide (p.most > 1000))))] (Kr (((decide (p.least<1)) || (decide (p.least > p.most))) || (decide (p.most > 1000))) [18] [1,1,1,0] [0,2,0,0] (fun bb=>[(22,Bo (bb || (decide (p.lost<1))))]) (Jb [0] [(23,Bo ((((decide (p.least<1)) || (decide (p.least > p.most))) || (decide (p.most > 1000))) || (decide (p.lost<1))))] (Kr ((((decide (p.least<1)) || (decide (p.least > p.most))) || (decide (p.most > 1000))) || (decide (p.lost<1))) [23] [1,1,1,0] [0,2,0,0] (fun bb=>[(27,Bo (bb || (decide (p.lost > 100))))]) ?_))))))))))))))))
 refine Jb [0] [(28,Bo (((((decide (p.least<1)) || (decide (p.least > p.most))) || (decide (p.most > 1000))) || (decide (p.lost<1))) || (decide (p.lost > 100))))] (Kr (((((decide (p.least<1)) || (decide (p.least > p.most))) || (decide (p.most > 1000))) || (decide (p.lost<1))) || (decide (p.lost > 100))) [28] [1,1,1,1,1,0] [0,2,0,2,0,0] (fun bb=>[(34,Bo (bb || (decide (p.gap<p.least))))]) (Jb [0] [(35,Bo ((((((decide (p.least<1)) || (decide (p.least > p.most))) || (decide (p.most > 1000))) || (decide (p.lost<1))) || (decide (p.lost > 100))) || (decide (p.gap<p.least))))] (Kr ((((((decide (p.least<1)) || (decide (p.least > p.most))) || (decide (p.most > 1000))) || (decide (p.lost<1))) || (decide (p.lost > 100))) || (decide (p.gap<p.least))) [35] [1,1,1,1,1,0] [0,2,0,2,0,0] (fun bb=>[(41,Bo (bb || (decide (p.gap > p.most))))]) (Jb [0] [(42,Bo (((((((decide (p.least<1)) || (decide (p.least > p.most))) || (decide (p.most > 1000))) || (decide (p.lost<1))) || (decide (p.lost > 100))) || (decide (p.gap<p.least))) || (decide (p.gap > p.most))))] (Kr (((((((decide (p.least<1)) || (decide (p.least > p.most))) || (decide (p.most > 1000))) || (decide (p.lost<1))) || (decide (p.lost > 100))) || (decide (p.gap<p.least))) || (decide (p.gap > p.most))) [42] [1,1,1,0] [0,2,0,0] (fun bb=>[(46,Bo (bb || (decide (p.next<0))))]) (Jb [0] [(47,Bo ((((((((decide (p.least<1)) || (decide (p.least > p.most))) || (decide (p.most > 1000))) || (decide (p.lost<1))) || (decide (p.lost > 100))) || (decide (p.gap<p.least))) || (decide (p.gap > p.most))) || (decide (p.next<0))))] (Kr ((((((((decide (p.least<1)) || (decide (p.least > p.most))) || (decide (p.most > 1000))) || (decide (p.lost<1))) || (decide (p.lost > 100))) || (decide (p.gap<p.least))) || (decide (p.gap > p.most))) || (decide (p.next<0))) [47] [1,1,1,0] [0,2,0,0] (fun bb=>[(51,Bo (bb || (decide (p.next > 1000000000))))]) (Jb [0] [(52,Bo (((((((((decide (p.least<1)) || (decide (p.least > p.most))) || (decide (p.most > 1000))) || (decide (p.lost<1))) || (decide (p.lost > 100))) || (decide (p.gap<p.least))) || (decide (p.gap > p.most))) || (decide (p.next<0))) || (decide (p.next > 1000000000))))] (Kr (((((((((decide (p.least<1)) || (decide (p.least > p.most))) || (decide (p.most > 1000))) || (decide (p.lost<1))) || (decide (p.lost > 100))) || (decide (p.gap<p.least))) || (decide (p.gap > p.most))) || (decide (p.next<0))) || (decide (p.next > 1000000000))) [52] [1,1,1,0] [0,2,0,0] (fun bb=>[(56,Bo (bb || (decide (p.asked<0))))]) (Jb [0] [(57,Bo ((((((((((decide (p.least<1)) || (decide (p.least > p.most))) || (decide (p.most > 1000))) || (decide (p.lost<1))) || (decide (p.lost > 100))) || (decide (p.gap<p.least))) || (decide (p.gap > p.most))) || (decide (p.next<0))) || (decide (p.next > 1000000000))) || (decide (p.asked<0))))] ?_))))))))))
 refine Kr ((((((((((decide (p.least<1)) || (decide (p.least > p.most))) || (decide (p.most > 1000))) || (decide (p.lost<1))) || (decide (p.lost > 100))) || (decide (p.gap<p.least))) || (decide (p.gap > p.most))) || (decide (p.next<0))) || (decide (p.next > 1000000000))) || (decide (p.asked<0))) [57] [1,1,1,0] [0,2,0,0] (fun bb=>[(61,Bo (bb || (decide (p.asked > 1000000))))]) (Je (Jc (Jm (((((((((((decide (p.least<1)) || (decide (p.least > p.most))) || (decide (p.most > 1000))) || (decide (p.lost<1))) || (decide (p.lost > 100))) || (decide (p.gap<p.least))) || (decide (p.gap > p.most))) || (decide (p.next<0))) || (decide (p.next > 1000000000))) || (decide (p.asked<0))) || (decide (p.asked > 1000000))) (fun h1=>?_) (fun h1=>?_))))
 refine Jg [0] [(2,I 4)] (Jn (Jj (Jo [0] [I 4] (Jx (Jh _) (congrArg I (?_:(KL p)=4).symm)))))
 exact JcD (by unfold Vk;omega)
 refine Jq (Jc (Jg [0] [(2,I 0)] (Jn (Jo [0] [I 0] (Jx (Jh _) (congrArg I (?_:(KL p)=0).symm))))))
 exact JbC (by unfold Vk;omega)
theorem JbJ (G:J4) (vs_p:Bv) (p:We) (h_p:WJ.R G vs_p p) (now:Int) :Q3 215 #[.agg vs_p.toArray,I now] G (I (KO p now)):=by
 obtain ⟨rfl,w1,w2,w3,w4,w5,w6⟩:=h_p
 refine JQ Tryz.func215 19 [(0,.agg #[I p.least,I p.most,I p.lost,I p.gap,I p.next,I p.asked]),(1,I now)] rfl (fun w0 G0=>?_)
 refine Jf (Jd (Jv 2 #[I p.least,I p.most,I p.lost,I p.gap,I p.next,I p.asked] 143 (fun b1=>Jb [0] [] (Je (Jc (Jf (Jd (Jb [2] [(6,.agg #[I p.least,I p.most,I p.lost,I p.gap,I p.next,I p.asked])] (Jl 7 (I (KL p)) (JaZ G [I p.least,I p.most,I p.lost,I p.gap,I p.next,I p.asked] p (⟨rfl,w1,w2,w3,w4,w5,w6⟩)) (Jb [0] [(5,I (KL p))] (Je (Jc (Jf (Jf (Jd (Jb [0,0,0] [(10,Bo (decide (KL p=0)))] (QU [10] (decide (KL p=0)) (fun h1=>?_) (fun h1=>?_))))))))))))))))))
 refine Jb [0,0,0] [(13,Bo (decide (now<0)))] (Kr (decide (now<0)) [13] [1,1,0] [0,0,0] (fun bb=>[(16,Bo (bb || (decide (now > 1000000000))))]) (Jb [0] [(17,Bo ((decide (now<0)) || (decide (now > 1000000000))))] (Je (Jc (Jm ((decide (now<0)) || (decide (now > 1000000000))) (fun h2=>?_) (fun h2=>?_))))))
 refine Jd (Jb [0] [(5,I 4)] (Je (Jc (Jg [0,0] [(4,I 4)] (Jn (Jo [0] [I 4] (Jx (Jh _) (congrArg I (?_:(KO p now)=4).symm))))))))
 unfold KO;split <;> omega
 refine Jq (Jc (Jg [0,0] [(4,I (KL p))] (Jn (Jo [0] [I (KL p)] (Jx (Jh _) (congrArg I (?_:(KO p now)=(KL p)).symm))))))
 unfold KO;split <;> omega
 refine Jb [1,1,1,1,1,1,0] [(17,Bo false)] (Je (Jc (Qp (Jq (Jc (Jg [0,0] [(4,I (KL p))] (Jn (Jo [0] [I (KL p)] (Jx (Jh _) (congrArg I (?_:(KO p now)=(KL p)).symm))))))))))
 unfold KO;split <;> omega
theorem Jje (G:J4) (vs_p:Bv) (p:We) (h_p:WJ.R G vs_p p) (now:Int) :Q3 217 #[.agg vs_p.toArray,I now] G (.tuple #[Bo ((ZK p now).1),I ((ZK p now).2)]):=by
 obtain ⟨rfl,w1,w2,w3,w4,w5,w6⟩:=h_p
 refine JQ Tryz.func217 19 [(0,.agg #[I p.least,I p.most,I p.lost,I p.gap,I p.next,I p.asked]),(1,I now)] rfl (fun w0 G0=>?_)
 refine Jf (Jd (Jv 2 #[I p.least,I p.most,I p.lost,I p.gap,I p.next,I p.asked] 143 (fun b1=>Jb [0,0] [] (Je (Jc (Jf (Jd (Jb [2,0] [(7,.agg #[I p.least,I p.most,I p.lost,I p.gap,I p.next,I p.asked]),(8,I now)] (Jl 9 (I (KO p now)) (JbJ G [I p.least,I p.most,I p.lost,I p.gap,I p.next,I p.asked] p (⟨rfl,w1,w2,w3,w4,w5,w6⟩) now) (Jb [0] [(6,I (KO p now))] (Je (Jc (Jf (Jd (Jb [0,0,0] [(12,Bo (decide (KO p now=0)))] (Kr (decide (KO p now=0)) [12] [0,0,2,0,0] [1,1,1,1,0] (fun bb=>[(17,Bo (bb && (decide (now ≥ p.next))))]) (Jb [0,0,0] [(4,Bo ((decide (KO p now=0)) && (decide (now ≥ p.next)))),(5,I (KO p now))] (Je (Jc (Jn (Jo [0,0] [Bo ((decide (KO p now=0)) && (decide (now ≥ p.next))),I (KO p now)] (Jx (Jh _) ?_))))))))))))))))))))))
 have hf_:(ZK p now)=(((decide (KO p now=0)) && (decide (now ≥ p.next))),(KO p now)):=by
  rfl
 · (try rw [hf_]);(simp only [Qy];done)
theorem JcE (G:J4) (now:Int) (n:Int) (hn:-9000000000000000000≤now+n∧now+n≤9000000000000000000):Q3 216 #[I now,I n] G (I (K3 now n)):=by
 refine JQ Tryz.func216 9 [(0,I now),(1,I n)] rfl (fun w0 G0=>?_)
 refine Jg [0] [] (Jg [0,0,0,0,0] [(4,I (if 1000000000<(Hb.wrap (now+n)) then 1000000000 else (Hb.wrap (now+n))))] ?_)
 have e1:Hb.wrap (now+n)=now+n:=Ho _ (by omega)
 refine QW 4 (I (if 1000000000<(now+n) then 1000000000 else (now+n))) (show (I (if 1000000000<(Hb.wrap (now+n)) then 1000000000 else (Hb.wrap (now+n))):Value)=I (if 1000000000<(now+n) then 1000000000 else (now+n)) by simp only [e1]) ?_
 clear e1
 refine Jn (Jo [0] [I (if 1000000000<(now+n) then 1000000000 else (now+n))] (Jx (Jh _) (congrArg I (?_:(K3 now n)=(if 1000000000<(now+n) then 1000000000 else (now+n))).symm)))
 unfold K3;split <;> rfl
theorem JdG (G:J4) (vs_p:Bv) (p:We) (h_p:WJ.R G vs_p p) (now:Int) :Q3 170 #[.agg vs_p.toArray,I now] G (.tuple #[.agg #[I (((KP p now).1).least),I (((KP p now).1).most),I (((KP p now).1).lost),I (((KP p now).1).gap),I (((KP p now).1).next),I (((KP p now).1).asked)],I ((KP p now).2)]):=by
 obtain ⟨rfl,w1,w2,w3,w4,w5,w6⟩:=h_p
 refine JQ Tryz.func170 45 [(0,.agg #[I p.least,I p.most,I p.lost,I p.gap,I p.next,I p.asked]),(1,I now)] rfl (fun w0 G0=>?_)
 refine Jf (Jd (Jv 2 #[I p.least,I p.most,I p.lost,I p.gap,I p.next,I p.asked] 143 (fun b1=>Jv 4 #[I 0,I 0,I 0,I 0,I 0,I 0] 143 (fun b2=>Jb [0] [] (Je (Jc (Jf (Jd (Jb [4,0] [(9,.agg #[I p.least,I p.most,I p.lost,I p.gap,I p.next,I p.asked]),(10,I now)] (Jl 11 (.tuple #[Bo ((ZK p now).1),I ((ZK p now).2)]) (Jje G [I p.least,I p.most,I p.lost,I p.gap,I p.next,I p.asked] p (⟨rfl,w1,w2,w3,w4,w5,w6⟩) now) (Jb [0,0,0,0,0] [(6,Bo ((ZK p now).1)),(7,I ((ZK p now).2))] (Je (Jc (Jf (Jy (Jg [0,0,0] [(14,Bo (!decide ((ZK p now).2=0)))] (Jm (!decide ((ZK p now).2=0)) (fun h1=>?_) (fun h1=>?_))))))))))))))))))
 refine Jg [0,0,3,0] [(5,I ((ZK p now).2))] (Jn (Ju (Jj (Jo [0,0] [.agg #[I 0,I 0,I 0,I 0,I 0,I 0],I ((ZK p now).2)] (Jx (Jh _) ?_)))))
 have hf_:(KP p now)=((⟨0,0,0,0,0,0⟩:We),((ZK p now).2)):=by
  unfold KP VL;(try unfold ZK at *);(repeat' split) <;> rfl
 · (try rw [hf_]);(simp only [Qy];done)
 refine Jg [0,0,0] [(19,Bo (!((ZK p now).1)))] (Jm (!((ZK p now).1)) (fun h2=>?_) (fun h2=>?_))
 refine Jg [0,3,0] [(5,I 9)] (Jn (Ju (Jj (Jo [0,0] [.agg #[I 0,I 0,I 0,I 0,I 0,I 0],I 9] (Jx (Jh _) ?_)))))
 have hf_:(KP p now)=((⟨0,0,0,0,0,0⟩:We),9):=by
  unfold KP VL;(try unfold ZK at *);(repeat' split) <;> first | rfl | (exfalso;omega) | (simp_all;done)
 · (try rw [hf_]);(simp only [Qy];done)
 refine Jg [0,4,0,0] [(23,Bo (decide (p.asked=1000000)))] (Jm (decide (p.asked=1000000)) (fun h3=>?_) (fun h3=>?_))
 refine Jg [0,3,0] [(5,I 7)] (Jn (Ju (Jj (Jo [0,0] [.agg #[I 0,I 0,I 0,I 0,I 0,I 0],I 7] (Jx (Jh _) ?_)))))
 have hf_:(KP p now)=((⟨0,0,0,0,0,0⟩:We),7):=by
  unfold KP VL;(try unfold ZK at *);(repeat' split) <;> first | rfl | (exfalso;omega) | (exfalso;simp_all;omega)
 · (try rw [hf_]);(simp only [Qy];done)
 refine Jq (JN (Jc (QB [0,4,0,0,5] [] [[Sg b2 0 [I 0,I 0,I 0,I 0,I 0,I 0]],[Sg b1 0 [I p.least,I p.most,I p.lost,I p.gap,I p.next,I (Hb.wrap (p.asked+1))]]] ?_)))
 have e1:Hb.wrap (p.asked+1)=p.asked+1:=Ho _ (by (have q_:=Jb0 (p:=p) (now:=now) ‹_›;omega))
 refine JcN (L':=[[Sg b2 0 [I 0,I 0,I 0,I 0,I 0,I 0]],[Sg b1 0 [I p.least,I p.most,I p.lost,I p.gap,I p.next,I (p.asked+1)]]]) (by simp only [e1]) ?_
 clear e1
 refine Jf (Jd (Jb [0,0,4] [(32,I now),(34,I p.gap)] (Jl 35 (I (K3 now p.gap)) (JcE G now p.gap (by (have q_:=Jb0 (p:=p) (now:=now) ‹_›;omega))) (JT [0,5] [] [[Sg b2 0 [I 0,I 0,I 0,I 0,I 0,I 0]],[Sg b1 0 [I p.least,I p.most,I p.lost,I p.gap,I (K3 now p.gap),I (p.asked+1)]]] (Je (Jc (QB [0,4,0,0,4,0,0,5] [] [[Sg b2 0 [I 0,I 0,I 0,I 0,I 0,I 0]],[Sg b1 0 [I p.least,I p.most,I p.lost,I (if p.most<(Hb.wrap (2*p.gap)) then p.most else (Hb.wrap (2*p.gap))),I (K3 now p.gap),I (p.asked+1)]]] ?_)))))))
 have e2:Hb.wrap (2*p.gap)=2*p.gap:=Ho _ (by (have q_:=Jb0 (p:=p) (now:=now) ‹_›;omega))
 refine JcN (L':=[[Sg b2 0 [I 0,I 0,I 0,I 0,I 0,I 0]],[Sg b1 0 [I p.least,I p.most,I p.lost,I (if p.most<(2*p.gap) then p.most else (2*p.gap)),I (K3 now p.gap),I (p.asked+1)]]]) (by simp only [e2]) ?_
 clear e2
 refine QB [4,3,0] [(5,I 0)] [[Sg b2 0 [I p.least,I p.most,I p.lost,I (if p.most<(2*p.gap) then p.most else (2*p.gap)),I (K3 now p.gap),I (p.asked+1)]],[Sg b1 0 [I p.least,I p.most,I p.lost,I (if p.most<(2*p.gap) then p.most else (2*p.gap)),I (K3 now p.gap),I (p.asked+1)]]] (Jn (Jo [0,0] [.agg #[I p.least,I p.most,I p.lost,I (if p.most<(2*p.gap) then p.most else (2*p.gap)),I (K3 now p.gap),I (p.asked+1)],I 0] (Jx (Jh _) ?_)))
 have hf_:(KP p now)=((⟨p.least,p.most,p.lost,if p.most<(2*p.gap) then p.most else (2*p.gap),K3 now p.gap,p.asked+1⟩:We),0):=by
  unfold KP VL;(try unfold ZK at *);(repeat' split) <;> first | rfl | (exfalso;omega) | (exfalso;simp_all;omega)
 · (try rw [hf_]);(simp only [Qy];done)
theorem Jjf (G:J4) (a:Int) (hw_a:rI a) (b:Int) (hw_b:rI b) (c:Int) (hw_c:rI c) :Q3 58 #[I a,I b,I c] G (.tuple #[.agg #[I (((KR a b c).1).least),I (((KR a b c).1).most),I (((KR a b c).1).lost),I (((KR a b c).1).gap),I (((KR a b c).1).next),I (((KR a b c).1).asked)],I ((KR a b c).2)]):=by
 refine JQ Tryz.func58 22 [(0,I a),(1,I b),(2,I c)] rfl (fun w0 G0=>?_)
 refine Jf (Jd (Jv 6 #[I 0,I 0,I 0,I 0,I 0,I 0] 143 (fun b1=>Jb [0] [] (Je (Jc (Jf (Jd (Jb [0,0,0,0,0] [(14,.agg #[I a,I b,I c,I a,I 0,I 0])] (Jv 8 #[I 0,I 0,I 0,I 0,I 0,I 0] 143 (fun b2=>JT [3] [] [[Sg b2 0 [I a,I b,I c,I a,I 0,I 0]],[Sg b1 0 [I 0,I 0,I 0,I 0,I 0,I 0]]] (Je (Jc (Jf (Jf (Jd (Jb [2] [(15,.agg #[I a,I b,I c,I a,I 0,I 0])] (Jl 16 (I (KL (⟨a,b,c,a,0,0⟩:We))) (JaZ G [I a,I b,I c,I a,I 0,I 0] (⟨a,b,c,a,0,0⟩:We) (⟨rfl,hw_a,hw_b,hw_c,hw_a,(by (simp;done)),(by (simp;done))⟩)) (Jb [0] [(9,I (KL (⟨a,b,c,a,0,0⟩:We)))] (Je (Jc (Jg [0,0] [(18,Bo (!decide (KL (⟨a,b,c,a,0,0⟩:We)=0)))] (Jm (!decide (KL (⟨a,b,c,a,0,0⟩:We)=0)) (fun h1=>?_) (fun h1=>?_)))))))))))))))))))))))
 refine Jg [0,0,5,0] [(7,I (KL (⟨a,b,c,a,0,0⟩:We)))] (Jn (Jj (Jo [1,0] [.agg #[I 0,I 0,I 0,I 0,I 0,I 0],I (KL (⟨a,b,c,a,0,0⟩:We))] (Jx (Jh _) ?_))))
 have hf_:(KR a b c)=((⟨0,0,0,0,0,0⟩:We),(KL (⟨a,b,c,a,0,0⟩:We))):=by
  rw [ZD] at *;unfold KR VL;split <;> first | (rename_i hx;rw [JcD hx];done) | contradiction
 · (try rw [hf_]);(simp only [Qy];done)
 refine Jq (Jc (QB [2,5,0] [(7,I 0)] [[Sg b2 0 [I a,I b,I c,I a,I 0,I 0]],[Sg b1 0 [I a,I b,I c,I a,I 0,I 0]]] (Jn (Jo [1,0] [.agg #[I a,I b,I c,I a,I 0,I 0],I 0] (Jx (Jh _) ?_)))))
 have hf_:(KR a b c)=((⟨a,b,c,a,0,0⟩:We),0):=by
  rw [ZD] at *;unfold KR VL;split <;> rfl
 · (try rw [hf_]);(simp only [Qy];done)
theorem JgH (G:J4) (vs_p:Bv) (p:We) (h_p:WJ.R G vs_p p) (now:Int) :Q3 169 #[.agg vs_p.toArray,I now] G (.tuple #[.agg #[I (((Wa p now).1).least),I (((Wa p now).1).most),I (((Wa p now).1).lost),I (((Wa p now).1).gap),I (((Wa p now).1).next),I (((Wa p now).1).asked)],I ((Wa p now).2)]):=by
 obtain ⟨rfl,w1,w2,w3,w4,w5,w6⟩:=h_p
 refine JQ Tryz.func169 27 [(0,.agg #[I p.least,I p.most,I p.lost,I p.gap,I p.next,I p.asked]),(1,I now)] rfl (fun w0 G0=>?_)
 refine Jf (Jd (Jv 2 #[I p.least,I p.most,I p.lost,I p.gap,I p.next,I p.asked] 143 (fun b1=>Jv 4 #[I 0,I 0,I 0,I 0,I 0,I 0] 143 (fun b2=>Jb [0] [] (Je (Jc (Jf (Jf (Jd (Jb [4,0] [(7,.agg #[I p.least,I p.most,I p.lost,I p.gap,I p.next,I p.asked]),(8,I now)] (Jl 9 (I (KO p now)) (JbJ G [I p.least,I p.most,I p.lost,I p.gap,I p.next,I p.asked] p (⟨rfl,w1,w2,w3,w4,w5,w6⟩) now) (Jb [0] [(6,I (KO p now))] (Je (Jc (Jg [0,0] [(11,Bo (!decide (KO p now=0)))] (Jm (!decide (KO p now=0)) (fun h1=>?_) (fun h1=>?_)))))))))))))))))
 refine Jg [0,0,3,0] [(5,I (KO p now))] (Jn (Jj (Jo [0,0] [.agg #[I 0,I 0,I 0,I 0,I 0,I 0],I (KO p now)] (Jx (Jh _) ?_))))
 have hf_:(Wa p now)=((⟨0,0,0,0,0,0⟩:We),(KO p now)):=by
  unfold Wa VL;(repeat' split) <;> rfl
 · (try rw [hf_]);(simp only [Qy];done)
 refine Jq (Jc (QB [0,4,0,5,0,5] [] [[Sg b2 0 [I 0,I 0,I 0,I 0,I 0,I 0]],[Sg b1 0 [I p.least,I p.most,I p.lost,I p.least,I p.next,I 0]]] (Jf (Kv [8] (Ws [(0,Pt b1 4),(1,I p.next),(2,I now),(3,Pt b1 0),(4,I p.least),(5,I (K3 now p.least)),(6,I (if (K3 now p.least)<p.next then (K3 now p.least) else p.next)),(7,Pt b1 4)] (JF [] [(0,0),(1,4),(2,0),(3,0),(4,4),(6,0),(7,0)] [5] [8] (Kf ?_ KY) (Kf ?_ KY)))))))
 refine Jr 5 23 (I (K3 now p.least)) [(20,I now),(22,I p.least)] (fun X=>?_)
 exact Jl 23 (I (K3 now p.least)) (JcE G now p.least (by (have q_:=Jb0 (p:=p) (now:=now) ‹_›;omega))) Jp
 refine Jz 8 [(24,I (if (K3 now p.least)<p.next then (K3 now p.least) else p.next)),(25,Pt b1 4)] (fun X=>?_)
 refine KA 1 [[Sg b2 0 [I 0,I 0,I 0,I 0,I 0,I 0]],[Sg b1 0 [I p.least,I p.most,I p.lost,I p.least,I (if (K3 now p.least)<p.next then (K3 now p.least) else p.next),I 0]]] (J5 [] (Ko [0,1,2,3,4,5,6,7] [] [] [(2,Pt b1 0),(4,Pt b2 0)] (Ha _) (Jc (QB [4,3,0] [(5,I 0)] [[Sg b2 0 [I p.least,I p.most,I p.lost,I p.least,I (if (K3 now p.least)<p.next then (K3 now p.least) else p.next),I 0]],[Sg b1 0 [I p.least,I p.most,I p.lost,I p.least,I (if (K3 now p.least)<p.next then (K3 now p.least) else p.next),I 0]]] (Jn (Jo [0,0] [.agg #[I p.least,I p.most,I p.lost,I p.least,I (if (K3 now p.least)<p.next then (K3 now p.least) else p.next),I 0],I 0] (Jx (Jh _) ?_)))))))
 have hf_:(Wa p now)=((⟨p.least,p.most,p.lost,p.least,if (K3 now p.least)<p.next then (K3 now p.least) else p.next,0⟩:We),0):=by
  unfold Wa VL;(repeat' split) <;> first | rfl | (exfalso;omega)
 · (try rw [hf_]);(simp only [Qy];done)
theorem JcF (G:J4) (vs_p:Bv) (p:We) (h_p:WJ.R G vs_p p) :Q3 171 #[.agg vs_p.toArray] G (.tuple #[Bo ((Wn p).1),I ((Wn p).2)]):=by
 obtain ⟨rfl,w1,w2,w3,w4,w5,w6⟩:=h_p
 refine JQ Tryz.func171 17 [(0,.agg #[I p.least,I p.most,I p.lost,I p.gap,I p.next,I p.asked])] rfl (fun w0 G0=>?_)
 refine Jf (Jd (Jv 1 #[I p.least,I p.most,I p.lost,I p.gap,I p.next,I p.asked] 143 (fun b1=>Jb [0,0] [] (Je (Jc (Jf (Jd (Jb [2] [(5,.agg #[I p.least,I p.most,I p.lost,I p.gap,I p.next,I p.asked])] (Jl 6 (I (KL p)) (JaZ G [I p.least,I p.most,I p.lost,I p.gap,I p.next,I p.asked] p (⟨rfl,w1,w2,w3,w4,w5,w6⟩)) (Jb [0] [(4,I (KL p))] (Je (Jc (Jf (Jd (Jb [0,0,0] [(9,Bo (decide (KL p=0)))] (Kr (decide (KL p=0)) [9] [0,2,0,2,0,0] [1,1,1,1,1,0] (fun bb=>[(15,Bo (bb && (decide (p.asked ≥ p.lost))))]) (Jb [0,0,0] [(2,Bo ((decide (KL p=0)) && (decide (p.asked ≥ p.lost)))),(3,I (KL p))] (Je (Jc (Jn (Jo [0,0] [Bo ((decide (KL p=0)) && (decide (p.asked ≥ p.lost))),I (KL p)] (Jx (Jh _) ?_))))))))))))))))))))))
 have hf_:(Wn p)=(((decide (KL p=0)) && (decide (p.asked ≥ p.lost))),(KL p)):=by
  rfl
 · (try rw [hf_]);(simp only [Qy];done)
def Jb1:Y7:=⟨0,[]⟩
def Je0 (l:JS) (n:Y7):Bool:=decide (l.due≤n.now)
def Qh (n:Y7):Int:=if n.now<0∨1000000000<n.now then 4 else if 60<n.way.length then 7 else if (n.way.any fun x0=>Je0 x0 n)=true then 4 else 0
theorem QV {n:Y7} (h:Qh n=0):0≤n.now∧n.now≤1000000000∧n.way.length≤60∧∀ l∈n.way,n.now<l.due:=by
 unfold Qh at h
 split at h
 · cases h
 split at h
 · cases h
 split at h
 · cases h
 ·
  rename_i h1 h2 h3
  refine ⟨by omega,by omega,by omega,fun l hl=>?_⟩
  have:¬ Je0 l n=true:=fun hc=>h3 (Hu.2 ⟨l,hl,hc⟩)
  unfold Je0 at this
  simpa using this
def VD (k:Int):Bool:=decide (k<1) || decide (k > 100)
theorem Jlx {l:List Int} {i:Nat} {x:Int} (h:(l.any fun x0=>VD x0)=false) (hx:l[i]? = some x):1≤x∧x≤100:=by
 have:=List.any_eq_false.1 h x (Hr hx)
 unfold VD at this
 simp at this;omega
def Jos (l:JS) (d:Int):JS:=⟨l.to_,l.from_,l.since,d,l.heads,l.reply⟩
def Ky (n:Y7) (l:JS) (fates:List Int):Y7×Int :=
 if Qh n ≠ 0 then (Jb1,Qh n) else if (fates.any fun x0=>VD x0)=true then (Jb1,4) else if (fates.length:Int) > 60-(n.way.length:Int) then (Jb1,7) else (⟨n.now,n.way++fates.map fun k=>Jos l (n.now+k)⟩,0)
def Ks (n:Y7):Y7×List JS×Int :=
 if Qh n ≠ 0 then (Jb1,[],Qh n) else if n.now=1000000000 then (Jb1,[],9) else (⟨n.now+1,n.way.filter fun l=>!decide (l.due=n.now+1)⟩,n.way.filter fun l=>decide (l.due=n.now+1),0)
theorem JmK {α:Type} {l:List α} {i:Nat} {x:α} (h:l[i]? = some x):l.take i++[x]=l.take (i+1):=by rw [Hj,h];rfl
theorem Jot {α β:Type} {l:List α} {i:Nat} {x:α} (f:α→β) (h:l[i]? = some x):(l.take i).map f++[f x]=(l.take (i+1)).map f:=by rw [Hj,h];simp
theorem JeM {α:Type} {l:List α} {i:Nat} {x:α} {p:α→Bool} (h:l[i]? = some x) (hp:p x=true):(l.take i).filter p++[x]=(l.take (i+1)).filter p:=by rw [Hj,h];simp [hp]
theorem JeN {α:Type} {l:List α} {i:Nat} {x:α} {p:α→Bool} (h:l[i]? = some x) (hp:p x=false):(l.take i).filter p=(l.take (i+1)).filter p:=by rw [Hj,h];simp [hp]
theorem Wf {α:Type} (p:α→Bool) (l:List α) (i:Nat):((l.take i).filter p).length≤l.length:=Hf (HB _ _) (List.length_take_le' i l)
theorem JeO (G:J4) (vs_l:Bv) (l:JS) (h_l:Kl.R G vs_l l) :YL 109 #[.agg vs_l.toArray] G [] (fun u G' L'=>∃ (a1:Ba) (c2:Nat) (a3:Ba) (c4:Nat) (a5:Ba) (c6:Nat),u=.agg #[I l.to_,I l.from_,I l.since,I l.due,Sl a1 l.heads.length c2,I l.reply.head.epoch,U l.reply.head.root,U l.reply.head.prev,I l.reply.head.at_,Sr l.reply.proof.name,Sl a3 l.reply.proof.entries.length c4,Sl a5 l.reply.proof.sides.length c6]∧(rI l.to_)∧(rI l.from_)∧(rI l.since)∧(rI l.due)∧(RS KN G' a1 c2 l.heads)∧(rI l.reply.head.epoch)∧(rU l.reply.head.root)∧(rU l.reply.head.prev)∧(rI l.reply.head.at_)∧((l.reply.proof.name).length≤140737488351232)∧(RS QE G' a3 c4 l.reply.proof.entries)∧(RS EU G' a5 c6 l.reply.proof.sides)∧L'=[]):=by
 obtain ⟨a1,c1,a2,c2,a3,c3,rfl,w1,w2,w3,w4,hs1,w5,w6,w7,w8,w9,hs2,hs3⟩:=h_l
 refine JQ Tryz.func109 24 [(0,(QZ l a1 c1 a2 c2 a3 c3))] rfl (fun w0 G0=>?_)
 refine Jf (Jd (Jv 1 #[I l.to_,I l.from_,I l.since,I l.due,Sl a1 l.heads.length c1,I l.reply.head.epoch,U l.reply.head.root,U l.reply.head.prev,I l.reply.head.at_,Sr l.reply.proof.name,Sl a2 l.reply.proof.entries.length c2,Sl a3 l.reply.proof.sides.length c3] 51 (fun b1=>Jv 2 #[I 0,I 0,I 0,I 0,Sl none 0 0,I 0,U 0,U 0,I 0,Sr ([]),Sl none 0 0,Sl none 0 0] 51 (fun b2=>Je (Jc (Jf (Jd (Jb [0,4] [(4,Sl a1 l.heads.length c1)] (JM 5 (Vz G a1 c1 l.heads hs1) (fun v G1 L1 hl1 hp=>?_))))))))))
 obtain ⟨a4,c4,r1,rfl,hr1,rfl⟩:=hp
 refine JT [0,7] [] [r1,[Sg b2 0 [I 0,I 0,I 0,I 0,Sl none 0 0,I 0,U 0,U 0,I 0,Sr ([]),Sl none 0 0,Sl none 0 0]],[Sg b1 0 (Kw l a4 c4 a2 c2 a3 c3)]] (Je (Jc (Jf (Jd (Jb [0,0,0,6] [(10,Sl a2 l.reply.proof.entries.length c2)] (JM 11 (YN G1 a2 c2 l.reply.proof.entries (hs2.mono hl1)) (fun v G2 L1 hl2 hp=>?_)))))))
 obtain ⟨a5,c5,r2,rfl,hr2,rfl⟩:=hp
 refine JT [0,0,0,9] [] [r2,r1,[Sg b2 0 [I 0,I 0,I 0,I 0,Sl none 0 0,I 0,U 0,U 0,I 0,Sr ([]),Sl none 0 0,Sl none 0 0]],[Sg b1 0 (Kw l a4 c4 a5 c5 a3 c3)]] (Je (Jc (Jf (Jd (Jb [0,0,0,8] [(18,Sl a3 l.reply.proof.sides.length c3)] (JM 19 (Jd5 G2 a3 c3 l.reply.proof.sides (hs3.mono (Ja hl1 hl2))) (fun v G3 L1 hl3 hp=>?_)))))))
 obtain ⟨a6,c6,r3,rfl,hr3,rfl⟩:=hp
 refine JT [0,0,0,11] [] [r3,r2,r1,[Sg b2 0 [I 0,I 0,I 0,I 0,Sl none 0 0,I 0,U 0,U 0,I 0,Sr ([]),Sl none 0 0,Sl none 0 0]],[Sg b1 0 (Kw l a4 c4 a5 c5 a6 c6)]] (Je (Jc (QB [10,9] [] [r3,r2,r1,[Sg b2 0 (Kw l a4 c4 a5 c5 a6 c6)],[Sg b1 0 (Kw l a4 c4 a5 c5 a6 c6)]] (Jn (Wv (E:=KN) 2 (hr1.mono (Ja hl2 hl3)) (by exact (hs1).fit) (fun G4 hl4 hs4=>Wv (E:=QE) 1 (hr2.mono (Ja hl3 hl4)) (by exact (hs2.mono hl1).fit) (fun G5 hl5 hs5=>Wv (E:=EU) 0 (hr3.mono (Ja hl4 hl5)) (by exact (hs3.mono (Ja hl1 hl2)).fit) (fun G6 hl6 hs6=>?_))))))))
 have hf1:l=l:=by
  rfl
 refine Jo [3] [(QZ l a4 c4 a5 c5 a6 c6)] (JD [] (Ja (Ja (Ja (Ja (Ja hl1 hl2) hl3) hl4) hl5) hl6) ?_)
 rw [hf1]
 try dsimp only
 exact ⟨a4,c4,a5,c5,a6,c6,rfl,w1,w2,w3,w4,(hs4.mono (Ja hl5 hl6)),w5,w6,w7,w8,w9,(hs5.mono hl6),hs6,rfl⟩
theorem JbD (G:J4) (a_l:Ba) (c_l:Nat) (l:List JS) (h_l:RS Kl G a_l c_l l) (hf:l.length*152≤140737488351232):YL 108 #[Sl a_l l.length c_l] G [] (fun u G' L'=>∃ (a1:Ba) (c2:Nat) (r3:Bg),u=Sl a1 l.length c2∧(JX Kl G' a1 c2 l r3)∧L'=[r3]):=by
 refine JQ Tryz.func108 19 [(0,Sl a_l l.length c_l)] rfl (fun w0 G0=>?_)
 refine Jg [0] [] (Jg [0] [(3,Sl none 0 0)] (Jf (Jg [0,0,0] [(6,Sl a_l l.length c_l),(7,I (l.length:Int)),(8,I 0)] (Jy (ZU ?_)))))
 have hlm_h_l:l.length≤9223372036854775807:=Hf (h_l).le (h_l).max
 refine Qe (σ:=Nat×Ba×Nat×Bg×List JS×J4) (fun q_=>(J4.le G q_.2.2.2.2.2)∧(q_.1≤l.length)∧(JX Kl q_.2.2.2.2.2 q_.2.1 q_.2.2.1 q_.2.2.2.2.1 q_.2.2.2.1)∧(q_.2.2.2.2.1=l.take q_.1)) (fun q_=>[(3,Sl q_.2.1 q_.2.2.2.2.1.length q_.2.2.1),(6,Sl a_l l.length c_l),(7,I (l.length:Int)),(8,I (q_.1:Int))]) (fun q_=>q_.2.2.2.2.2) (fun q_=>[q_.2.2.2.1]) (fun q_=>l.length-q_.1) (0,none,0,[],[],G) ⟨(Jh _),(by (try dsimp only);exact Hs _),(JX.none Kl _),(by (try dsimp only);rfl)⟩ (fun q_ hs=>?_)
 obtain ⟨i,ao,co,ro,xo,g⟩:=q_
 obtain ⟨hle,hi,hro,hxo⟩:=hs
 dsimp only at hle hi hro hxo
 dsimp only
 refine Jg [0] [(9,Bo (decide ((i:Int)<(l.length:Int))))] (Jf (Jm (decide ((i:Int)<(l.length:Int))) (fun h1=>?_) (fun h1=>?_)))
 refine Jq (Jc (Jf (Jy (Jf (Jd ?_)))))
 obtain ⟨b1,o1,rfl⟩:=RS.addr (h_l.mono hle) (k:=i) (by omega)
 obtain ⟨x1,hx1⟩:=QQ (l:=l) (k:=i) (by omega)
 obtain ⟨_,⟨a1,c1,a2,c2,a3,c3,rfl,w1,w2,w3,w4,hs1,w5,w6,w7,w8,w9,hs2,hs3⟩,hc1⟩:=RS.get (h_l.mono hle) hx1
 refine JW (b:=b1) (off:=o1) (len:=l.length) (cap:=c_l) (ik:=.i64) 10 51 12 i Kd (JO 11 51 (cs:=(Kw x1 a1 c1 a2 c2 a3 c3)) 0 (QZ x1 a1 c1 a2 c2 a3 c3) hc1 (Jv 5 #[I 0,I 0,I 0,I 0,Sl none 0 0,I 0,U 0,U 0,I 0,Sr ([]),Sl none 0 0,Sl none 0 0] 51 (fun b2=>JT [3] [] [[Sg b2 0 (Kw x1 a1 c1 a2 c2 a3 c3)],ro] (Je (Jc (Jd (Jb [0,2] [(12,Sl ao xo.length co),(13,(QZ x1 a1 c1 a2 c2 a3 c3))] (JM 14 (JeO g (Kw x1 a1 c1 a2 c2 a3 c3) x1 (⟨a1,c1,a2,c2,a3,c3,rfl,w1,w2,w3,w4,hs1,w5,w6,w7,w8,w9,hs2,hs3⟩)) (fun v G1 L1 hl1 hp=>?_)))))))))
 obtain ⟨a4,c4,a5,c5,a6,c6,rfl,w10,w11,w12,w13,hs4,w14,w15,w16,w17,w18,hs5,hs6,rfl⟩:=hp
 exact Kq 15 1 #[I x1.to_,I x1.from_,I x1.since,I x1.due,Sl a4 x1.heads.length c4,I x1.reply.head.epoch,U x1.reply.head.root,U x1.reply.head.prev,I x1.reply.head.at_,Sr x1.reply.proof.name,Sl a5 x1.reply.proof.entries.length c5,Sl a6 x1.reply.proof.sides.length c6] 51 (fun b3=>Qm (b:=b3) (cs:=(Kw x1 a4 c4 a5 c5 a6 c6)) 16 51 2 0 (E:=Kl) x1 (hro.mono hl1) ⟨a4,c4,a5,c5,a6,c6,rfl,w10,w11,w12,w13,hs4,w14,w15,w16,w17,w18,hs5,hs6⟩ (by have q1_:=congrArg Hn hxo;(try simp only [Kl,Hc,He,Hh,Hm,Hl] at *);omega) (by have q1_:=congrArg Hn hxo;(try simp only [Kl,Hc,He,Hh,Hm,Hl] at *);omega) (fun a7 c7 r1 hr1=>Jb [0] [(3,Sl a7 ((xo++[x1]).length) c7)] (Je (JN (Jc (Jd (Jb [0,0] [(8,I (Hb.wrap ((i:Int)+1)))] (Ku 8 ((i:Int)+1) Kd (Je (QA [r1] (Ql (i+1,a7,c7,r1,xo++[x1],G1) ⟨(Ja hle hl1),Kd,hr1,(by rw [hxo];exact JmK hx1)⟩ (by (try dsimp only);omega))))))))))))
 refine KX (J1 (Ke (JV (Jc (Jg [0,0] [(2,Sl ao xo.length co)] (Jn (Jk 0 ?_)))))))
 have hf1:l=xo:=by
  rw [hxo,Hk (by omega)]
 refine Jo [0] [Sl ao xo.length co] (JD [ro] hle ?_)
 rw [hf1]
 try dsimp only
 exact ⟨ao,co,ro,rfl,hro,rfl⟩
theorem Jou (G:J4) (vs_l:Bv) (l:JS) (h_l:Kl.R G vs_l l) (vs_n:Bv) (n:Y7) (h_n:ENet.R G vs_n n) (b_n:Nat) (hz_n:∀ j v,(vs_n:Bv)[j]? = some v→G b_n (0+j)=some v) :Q3 159 #[.agg vs_l.toArray,Pt b_n 0] G (Bo (Je0 l n)):=by
 obtain ⟨a1,c1,a2,c2,a3,c3,rfl,_,_,_,_,_,_,_,_,_,_,_,_⟩:=h_l
 obtain ⟨a4,c4,rfl,_,_⟩:=h_n
 refine JQ Tryz.func159 9 [(0,(QZ l a1 c1 a2 c2 a3 c3)),(1,Pt b_n 0)] rfl (fun w0 G0=>?_)
 refine Jf (Jd (Jv 2 #[I l.to_,I l.from_,I l.since,I l.due,Sl a1 l.heads.length c1,I l.reply.head.epoch,U l.reply.head.root,U l.reply.head.prev,I l.reply.head.at_,Sr l.reply.proof.name,Sl a2 l.reply.proof.entries.length c2,Sl a3 l.reply.proof.sides.length c3] 51 (fun b1=>Jb [0] [] (Je (Jc (Jf (Jd (Jb [0,2,0] [(5,I l.due),(6,Pt b_n 0)] (JO (o':=0) 7 2 (cs:=[I n.now,Sl a4 n.way.length c4]) 0 (I n.now) hz_n (Jb [0,0] [(3,Bo (decide (l.due≤n.now)))] (Je (Jc (Jn (Jo [0] [Bo (decide (l.due≤n.now))] (Jx (Jh _) (congrArg Bo (?_:(Je0 l n)=(decide (l.due≤n.now))).symm))))))))))))))))
 rfl
theorem JdH (G:J4) (vs_n:Bv) (n:Y7) (h_n:ENet.R G vs_n n) :Q3 105 #[.agg vs_n.toArray] G (I (Qh n)):=by
 obtain ⟨a1,c1,rfl,w1,hs1⟩:=h_n
 refine JQ Tryz.func105 22 [(0,.agg #[I n.now,Sl a1 n.way.length c1])] rfl (fun w0 G0=>?_)
 refine Jf (Jd (Jv 1 #[I n.now,Sl a1 n.way.length c1] 65 (fun b1=>Jb [0] [] (Je (Jc (Jf (Jy (Jf (Jd (Jb [0,2,0,0] [(7,Bo (decide (n.now<0)))] (Kr (decide (n.now<0)) [7] [1,1,1,0] [0,2,0,0] (fun bb=>[(11,Bo (bb || (decide (n.now > 1000000000))))]) (Jb [0] [(3,Bo ((decide (n.now<0)) || (decide (n.now > 1000000000))))] (Je (Jc (Jm ((decide (n.now<0)) || (decide (n.now > 1000000000))) (fun h1=>?_) (fun h1=>?_))))))))))))))))
 refine Jg [0] [(2,I 4)] (Jn (Ju (Jj (Jo [0] [I 4] (Jx (Jh _) (congrArg I (?_:(Qh n)=4).symm))))))
 · unfold Qh;(rw [if_pos (by omega)];done)
 refine Jg [0,2,0,0,0] [(12,Bo (decide ((n.way.length:Int) > 60)))] (Jm (decide ((n.way.length:Int) > 60)) (fun h2=>?_) (fun h2=>?_))
 refine Jg [0] [(2,I 7)] (Jn (Ju (Jj (Jo [0] [I 7] (Jx (Jh _) (congrArg I (?_:(Qh n)=7).symm))))))
 · unfold Qh;(rw [if_neg (by omega),if_pos (by omega)];done)
 refine Jf (Jd (Jb [0,2,0] [(19,Sl a1 n.way.length c1),(20,Fv 159 #[Pt b1 0])] (QK (b:=b1) (o:=0) (cs:=[I n.now,Sl a1 n.way.length c1]) 0 (fun G1 hl1 hz1=>Jl 21 (Bo (n.way.any (fun x0=>Je0 x0 n))) (JhJ G1 a1 c1 n.way (hs1.mono hl1) 159 #[Pt b1 0] (fun x0=>Je0 x0 n) (fun _ _=>by kernel_rfl) (fun vs0 x0 hx0=>by obtain ⟨a2,c2,a3,c3,a4,c4,rfl,w2,w3,w4,w5,hs2,w6,w7,w8,w9,w10,hs3,hs4⟩:=hx0;exact Jou G1 (Kw x0 a2 c2 a3 c3 a4 c4) x0 (⟨a2,c2,a3,c3,a4,c4,rfl,w2,w3,w4,w5,hs2,w6,w7,w8,w9,w10,hs3,hs4⟩) [I n.now,Sl a1 n.way.length c1] n (⟨a1,c1,rfl,w1,(hs1.mono hl1)⟩) b1 hz1)) (Jb [0] [(17,Bo (n.way.any (fun x0=>Je0 x0 n)))] (Je (Jc (Jm (n.way.any (fun x0=>Je0 x0 n)) (fun h3=>?_) (fun h3=>?_)))))))))
 refine Jg [0] [(2,I 4)] (Jn (Ju (Jj (Jo [0] [I 4] (Jx hl1 (congrArg I (?_:(Qh n)=4).symm))))))
 · unfold Qh;(rw [if_neg (by omega),if_neg (by omega)];simp_all;done)
 refine Jq (JN (Jc (Jg [0] [(2,I 0)] (Jn (Jo [0] [I 0] (Jx hl1 (congrArg I (?_:(Qh n)=0).symm)))))))
 · unfold Qh;(rw [if_neg (by omega),if_neg (by omega)];simp_all;done)
theorem Jjg (G:J4) (k:Int) :Q3 107 #[I k] G (Bo (VD k)):=by
 refine JQ Tryz.func107 9 [(0,I k)] rfl (fun w0 G0=>?_)
 refine Jg [0] [] (Jf (Jd (Jb [0,0,0] [(5,Bo (decide (k<1)))] (Kr (decide (k<1)) [5] [1,1,0] [0,0,0] (fun bb=>[(8,Bo (bb || (decide (k > 100))))]) (Jb [0] [(2,Bo ((decide (k<1)) || (decide (k > 100))))] (Je (Jc (Jn (Jo [0] [Bo ((decide (k<1)) || (decide (k > 100)))] (Jx (Jh _) (congrArg Bo (?_:(VD k)=((decide (k<1)) || (decide (k > 100)))).symm)))))))))))
 rfl
set_option maxRecDepth 20000 in
theorem YV (G:J4) (vs_n:Bv) (n:Y7) (h_n:ENet.R G vs_n n) (vs_l:Bv) (l:JS) (h_l:Kl.R G vs_l l) (a_fates:Ba) (c_fates:Nat) (fates:List Int) (h_fates:RS EI G a_fates c_fates fates) :YL 63 #[.agg vs_n.toArray,.agg vs_l.toArray,Sl a_fates fates.length c_fates] G [] (fun u G' L'=>∃ (a1:Ba) (c2:Nat),u=.tuple #[.agg #[I (((Ky n l fates).1).now),Sl a1 ((((Ky n l fates).1).way).length) c2],I ((Ky n l fates).2)]∧(rI (((Ky n l fates).1).now))∧(RS Kl G' a1 c2 (((Ky n l fates).1).way))∧L'=[]):=by
 obtain ⟨a1,c1,rfl,w1,hs1⟩:=h_n
 obtain ⟨a2,c2,a3,c3,a4,c4,rfl,_,_,_,_,hs2,_,_,_,_,_,hs3,hs4⟩:=h_l
 refine JQ Tryz.func63 60 [(0,.agg #[I n.now,Sl a1 n.way.length c1]),(1,(QZ l a2 c2 a3 c3 a4 c4)),(2,Sl a_fates fates.length c_fates)] rfl (fun w0 G0=>?_)
 refine Jf (Jd (Jv 3 #[I n.now,Sl a1 n.way.length c1] 65 (fun b1=>Jv 4 #[I l.to_,I l.from_,I l.since,I l.due,Sl a2 l.heads.length c2,I l.reply.head.epoch,U l.reply.head.root,U l.reply.head.prev,I l.reply.head.at_,Sr l.reply.proof.name,Sl a3 l.reply.proof.entries.length c3,Sl a4 l.reply.proof.sides.length c4] 51 (fun b2=>Jv 6 #[I 0,Sl none 0 0] 65 (fun b3=>Jb [0] [] (Je (Jc (Jf (Jd (Jb [6] [(13,.agg #[I n.now,Sl a1 n.way.length c1])] (Jl 14 (I (Qh n)) (JdH G [I n.now,Sl a1 n.way.length c1] n (⟨a1,c1,rfl,w1,hs1⟩)) (Jb [0] [(8,I (Qh n))] (Je (Jc (Jf (Jy (Jg [0,0,0] [(15,Bo (!decide (Qh n=0)))] (Jm (!decide (Qh n=0)) (fun h1=>?_) (fun h1=>?_)))))))))))))))))))
 refine Jg [0,0,3,0] [(7,I (Qh n))] (Jn (Ju (Jj ?_)))
 have hf1:Ky n l fates=((⟨0,[]⟩:Y7),Qh n):=by
  unfold Ky Jb1;(simp_all;done)
 refine Jo [0,0] [.agg #[I 0,Sl none 0 0],I (Qh n)] (JD [] (Jh _) ?_)
 rw [hf1]
 try dsimp only
 exact ⟨none,0,rfl,Kd,(J2 Kl G),rfl⟩
 refine Jf (Jd (Jb [0] [(21,Sl a_fates fates.length c_fates)] (Jl 22 (Bo (fates.any (fun x0=>VD x0))) (Jpu G a_fates c_fates fates h_fates 107 #[] (fun x0=>VD x0) (fun _ _=>by kernel_rfl) (fun x0 hx0=>Jjg G x0)) (Jb [0] [(20,Bo (fates.any (fun x0=>VD x0)))] (Je (Jc (Jm (fates.any (fun x0=>VD x0)) (fun h2=>?_) (fun h2=>?_))))))))
 refine Jg [0,3,0] [(7,I 4)] (Jn (Ju (Jj ?_)))
 have hf2:Ky n l fates=((⟨0,[]⟩:Y7),4):=by
  unfold Ky Jb1;(simp_all;done)
 refine Jo [0,0] [.agg #[I 0,Sl none 0 0],I 4] (JD [] (Jh _) ?_)
 rw [hf2]
 try dsimp only
 exact ⟨none,0,rfl,Kd,(J2 Kl G),rfl⟩
 refine Jg [0,0,0,6,0,0,0,0] [(24,Bo (decide ((fates.length:Int) > Hb.wrap (60-(n.way.length:Int)))))] ?_
 have e1:Hb.wrap (60-(n.way.length:Int))=60-(n.way.length:Int):=Ho _ (by (have q_:=QV ‹_›;omega))
 refine QW 24 (Bo (decide ((fates.length:Int) > 60-(n.way.length:Int)))) (show (Bo (decide ((fates.length:Int) > Hb.wrap (60-(n.way.length:Int)))):Value)=Bo (decide ((fates.length:Int) > 60-(n.way.length:Int))) by simp only [e1]) ?_
 clear e1
 refine Jm (decide ((fates.length:Int) > 60-(n.way.length:Int))) (fun h3=>?_) (fun h3=>?_)
 refine Jg [0,3,0] [(7,I 7)] (Jn (Ju (Jj ?_)))
 have hf3:Ky n l fates=((⟨0,[]⟩:Y7),7):=by
  unfold Ky Jb1;(simp_all;done)
 refine Jo [0,0] [.agg #[I 0,Sl none 0 0],I 7] (JD [] (Jh _) ?_)
 rw [hf3]
 try dsimp only
 exact ⟨none,0,rfl,Kd,(J2 Kl G),rfl⟩
 refine Jq (JN (Jc ?_))
 refine Ya (σ:=Nat×Ba×Nat×Bg×J4) (fun q_=>(J4.le G q_.2.2.2.2)∧(JX Kl q_.2.2.2.2 q_.2.1 q_.2.2.1 n.way q_.2.2.2.1)) (fun q_=>[(2,Sl a_fates fates.length c_fates),(3,Pt b1 0),(4,Pt b2 0),(6,Pt b3 0),(9,Pt q_.1 0)]) (fun q_=>q_.2.2.2.2) (fun q_=>[[Sg q_.1 0 [I n.now,Sl q_.2.1 n.way.length q_.2.2.1]],q_.2.2.2.1,[Sg b3 0 [I 0,Sl none 0 0]],[Sg b2 0 (Kw l a2 c2 a3 c3 a4 c4)],[Sg b1 0 [I n.now,Sl a1 n.way.length c1]]]) ?_ (fun q_ hs=>?_)
 refine Kv [4,6,7] (Ws [(0,Pt b1 0),(1,I n.now),(2,Pt b1 1),(3,Sl a1 n.way.length c1)] (JF [] [(0,0),(1,6),(2,0),(3,6)] [] [4,6] (Ha _) (Kf ?_ (Kf ?_ KY))))
 refine Jz 4 [(36,Sl a1 n.way.length c1)] (fun X=>?_)
 refine JM 37 (JbD G a1 c1 n.way hs1 (by (have q_:=QV ‹_›;omega))) (fun v G1 L1 hl1 hp=>?_)
 obtain ⟨a5,c5,r1,rfl,hr1,rfl⟩:=hp
 refine JA [(4,Sl a5 n.way.length c5),(5,.agg #[I n.now,Sl a5 n.way.length c5])] (JF [2,3] [(0,0),(1,8),(5,0)] [] [6] (Ha _) (Kf ?_ KY))
 refine Jz 6 [] (fun X=>?_)
 refine Jv 9 #[I 0,Sl none 0 0] 65 (fun b4=>JA [(6,Pt b4 0)] (JF [2,3] [(0,0),(1,10),(5,0)] [] [7] (Ha _) (Kf ?_ KY)))
 refine Jz 7 [(9,Pt b4 0),(38,.agg #[I n.now,Sl a5 n.way.length c5])] (fun X=>?_)
 exact KA 0 [[Sg b4 0 [I n.now,Sl a5 n.way.length c5]],r1,[Sg b3 0 [I 0,Sl none 0 0]],[Sg b2 0 (Kw l a2 c2 a3 c3 a4 c4)],[Sg b1 0 [I n.now,Sl a1 n.way.length c1]]] (J5 [] (Ko [0,1,2,3,5] [] [] [(2,Sl a_fates fates.length c_fates),(3,Pt b1 0),(4,Pt b2 0),(6,Pt b3 0),(9,Pt b4 0)] (Ha _) (QS (b4,a5,c5,r1,G1) ⟨hl1,hr1⟩)))
 refine Jz 6 [] (fun X=>?_)
 refine Jv 9 #[I 0,Sl none 0 0] 65 (fun b5=>JA [(6,Pt b5 0)] (JF [] [(0,0),(1,8),(2,0),(3,8)] [] [4] (Ha _) (Kf ?_ KY)))
 refine Jz 4 [(36,Sl a1 n.way.length c1)] (fun X=>?_)
 refine JM 37 (JbD G a1 c1 n.way hs1 (by (have q_:=QV ‹_›;omega))) (fun v G2 L1 hl2 hp=>?_)
 obtain ⟨a6,c6,r2,rfl,hr2,rfl⟩:=hp
 refine JA [(4,Sl a6 n.way.length c6),(5,.agg #[I n.now,Sl a6 n.way.length c6])] (JF [2,3] [(0,0),(1,10),(5,0)] [] [7] (Ha _) (Kf ?_ KY))
 refine Jz 7 [(9,Pt b5 0),(38,.agg #[I n.now,Sl a6 n.way.length c6])] (fun X=>?_)
 exact KA 1 [r2,[Sg b5 0 [I n.now,Sl a6 n.way.length c6]],[Sg b3 0 [I 0,Sl none 0 0]],[Sg b2 0 (Kw l a2 c2 a3 c3 a4 c4)],[Sg b1 0 [I n.now,Sl a1 n.way.length c1]]] (J5 [] (Ko [0,1,2,3,5] [] [] [(2,Sl a_fates fates.length c_fates),(3,Pt b1 0),(4,Pt b2 0),(6,Pt b3 0),(9,Pt b5 0)] (Ha _) (Jk 4 (Jk 4 (Jk 4 (Jk 3 (Jk 4 (QS (b5,a6,c6,r2,G2) ⟨hl2,hr2⟩))))))))
 obtain ⟨b4,a5,c5,r1,G1⟩:=q_
 obtain ⟨hle1,hj1⟩:=hs
 dsimp only at hle1 hj1
 dsimp only
 refine Jf (Jg [0,0,0] [(39,Sl a_fates fates.length c_fates),(40,I (fates.length:Int)),(41,I 0)] (Jy ?_))
 have hlm_h_fates:fates.length≤9223372036854775807:=Hf (h_fates).le (h_fates).max
 refine Qe (σ:=Nat×Ba×Nat×Bg×List JS×J4) (fun q_=>(J4.le G1 q_.2.2.2.2.2)∧(q_.1≤fates.length)∧(JX Kl q_.2.2.2.2.2 q_.2.1 q_.2.2.1 q_.2.2.2.2.1 q_.2.2.2.1)∧(q_.2.2.2.2.1=n.way++(fates.take q_.1).map fun k=>Jos l (n.now+k))) (fun q_=>[(3,Pt b1 0),(4,Pt b2 0),(6,Pt b3 0),(9,Pt b4 0),(39,Sl a_fates fates.length c_fates),(40,I (fates.length:Int)),(41,I (q_.1:Int))]) (fun q_=>q_.2.2.2.2.2) (fun q_=>[[Sg b4 0 [I n.now,Sl q_.2.1 q_.2.2.2.2.1.length q_.2.2.1]],q_.2.2.2.1,[Sg b3 0 [I 0,Sl none 0 0]],[Sg b2 0 (Kw l a2 c2 a3 c3 a4 c4)],[Sg b1 0 [I n.now,Sl a1 n.way.length c1]]]) (fun q_=>fates.length-q_.1) (0,a5,c5,r1,n.way,G1) ⟨(Jh _),(by (try dsimp only);exact Hs _),hj1,(by (try dsimp only);simp)⟩ (fun q_ hs=>?_)
 obtain ⟨i,aw,cw,rw,xw,g⟩:=q_
 obtain ⟨hle,hi,hrw,hxw⟩:=hs
 dsimp only at hle hi hrw hxw
 dsimp only
 refine Jg [0] [(42,Bo (decide ((i:Int)<(fates.length:Int))))] (Jf (Jm (decide ((i:Int)<(fates.length:Int))) (fun h4=>?_) (fun h4=>?_)))
 refine Jq (Jc (Jf (Jy (Jf (Jd ?_)))))
 obtain ⟨b6,o1,rfl⟩:=RS.addr (h_fates.mono (Ja hle1 hle)) (k:=i) (by omega)
 obtain ⟨x1,hx1⟩:=QQ (l:=fates) (k:=i) (by omega)
 obtain ⟨_,⟨rfl,_⟩,hc1⟩:=RS.get (h_fates.mono (Ja hle1 hle)) hx1
 refine JW (b:=b6) (off:=o1) (len:=fates.length) (cap:=c_fates) (ik:=.i64) 43 3 1 i Kd (JO 44 3 (cs:=[I x1]) 0 (I x1) hc1 (Jb [0] [(11,I x1)] (Je (Jc (Jf (Jd (Jb [8] [(45,(QZ l a2 c2 a3 c3 a4 c4))] (JM 46 (JeO g (Kw l a2 c2 a3 c3 a4 c4) l (⟨a2,c2,a3,c3,a4,c4,rfl,‹_›,‹_›,‹_›,‹_›,(hs2.mono (Ja hle1 hle)),‹_›,‹_›,‹_›,‹_›,‹_›,(hs3.mono (Ja hle1 hle)),(hs4.mono (Ja hle1 hle))⟩)) (fun v G3 L1 hl3 hp=>?_)))))))))
 obtain ⟨a7,c7,a8,c8,a9,c9,rfl,_,_,_,_,hs5,_,_,_,_,_,hs6,hs7,rfl⟩:=hp
 refine Jv 12 #[I 0,I 0,I 0,I 0,Sl none 0 0,I 0,U 0,U 0,I 0,Sr ([]),Sl none 0 0,Sl none 0 0] 51 (fun b7=>JT [3] [] [[Sg b7 0 (Kw l a7 c7 a8 c8 a9 c9)],[Sg b4 0 [I n.now,Sl aw xw.length cw]],rw,[Sg b3 0 [I 0,Sl none 0 0]],[Sg b2 0 (Kw l a2 c2 a3 c3 a4 c4)],[Sg b1 0 [I n.now,Sl a1 n.way.length c1]]] (Je (Jc (QB [0,12,0,0,0,3] [] [[Sg b7 0 (Kw (⟨l.to_,l.from_,l.since,(Hb.wrap (n.now+x1)),l.heads,l.reply⟩:JS) a7 c7 a8 c8 a9 c9)],[Sg b4 0 [I n.now,Sl aw xw.length cw]],rw,[Sg b3 0 [I 0,Sl none 0 0]],[Sg b2 0 (Kw l a2 c2 a3 c3 a4 c4)],[Sg b1 0 [I n.now,Sl a1 n.way.length c1]]] ?_))))
 have e2:Hb.wrap (n.now+x1)=n.now+x1:=Ho _ (by (have q_:=QV ‹_›;have q1_:=Jlx ‹_› ‹_›;omega))
 refine JcN (L':=[[Sg b7 0 [I l.to_,I l.from_,I l.since,I (n.now+x1),Sl a7 l.heads.length c7,I l.reply.head.epoch,U l.reply.head.root,U l.reply.head.prev,I l.reply.head.at_,Sr l.reply.proof.name,Sl a8 l.reply.proof.entries.length c8,Sl a9 l.reply.proof.sides.length c9]],[Sg b4 0 [I n.now,Sl aw xw.length cw]],rw,[Sg b3 0 [I 0,Sl none 0 0]],[Sg b2 0 [I l.to_,I l.from_,I l.since,I l.due,Sl a2 l.heads.length c2,I l.reply.head.epoch,U l.reply.head.root,U l.reply.head.prev,I l.reply.head.at_,Sr l.reply.proof.name,Sl a3 l.reply.proof.entries.length c3,Sl a4 l.reply.proof.sides.length c4]],[Sg b1 0 [I n.now,Sl a1 n.way.length c1]]]) (by simp only [Kw,QZ,e2];first | done | rfl) ?_
 clear e2
 exact Jd (Jb [0,4,2] [(53,Sl aw xw.length cw),(54,(QZ (⟨l.to_,l.from_,l.since,(n.now+x1),l.heads,l.reply⟩:JS) a7 c7 a8 c8 a9 c9))] (Kq 55 1 #[I l.to_,I l.from_,I l.since,I (n.now+x1),Sl a7 l.heads.length c7,I l.reply.head.epoch,U l.reply.head.root,U l.reply.head.prev,I l.reply.head.at_,Sr l.reply.proof.name,Sl a8 l.reply.proof.entries.length c8,Sl a9 l.reply.proof.sides.length c9] 51 (fun b8=>Qm (b:=b8) (cs:=(Kw (⟨l.to_,l.from_,l.since,(n.now+x1),l.heads,l.reply⟩:JS) a7 c7 a8 c8 a9 c9)) 56 51 3 0 (E:=Kl) (⟨l.to_,l.from_,l.since,n.now+x1,l.heads,l.reply⟩:JS) (hrw.mono hl3) ⟨a7,c7,a8,c8,a9,c9,rfl,‹_›,‹_›,‹_›,(by (dsimp only;(have q_:=QV ‹_›;have q1_:=Jlx ‹_› ‹_›;omega))),hs5,‹_›,‹_›,‹_›,‹_›,‹_›,hs6,hs7⟩ (by have q_:=QV ‹_›;have q1_:=congrArg Hn hxw;(try simp only [Kl,Hc,He,Hh,Hm,Hl] at *);omega) (by have q_:=QV ‹_›;have q1_:=congrArg Hn hxw;(try simp only [Kl,Hc,He,Hh,Hm,Hl] at *);omega) (fun a10 c10 r3 hr3=>JT [0,7] [] [[Sg b8 0 (Kw (⟨l.to_,l.from_,l.since,(n.now+x1),l.heads,l.reply⟩:JS) a7 c7 a8 c8 a9 c9)],[Sg b7 0 (Kw (⟨l.to_,l.from_,l.since,(n.now+x1),l.heads,l.reply⟩:JS) a7 c7 a8 c8 a9 c9)],[Sg b4 0 [I n.now,Sl a10 ((xw++[(⟨l.to_,l.from_,l.since,n.now+x1,l.heads,l.reply⟩:JS)]).length) c10]],r3,[Sg b3 0 [I 0,Sl none 0 0]],[Sg b2 0 (Kw l a2 c2 a3 c3 a4 c4)],[Sg b1 0 [I n.now,Sl a1 n.way.length c1]]] (Je (JN (Jc (Jd (Jb [0,0] [(41,I (Hb.wrap ((i:Int)+1)))] (Ku 41 ((i:Int)+1) Kd (Je (QA [[Sg b4 0 [I n.now,Sl a10 ((xw++[(⟨l.to_,l.from_,l.since,n.now+x1,l.heads,l.reply⟩:JS)]).length) c10]],r3,[Sg b3 0 [I 0,Sl none 0 0]],[Sg b2 0 (Kw l a2 c2 a3 c3 a4 c4)],[Sg b1 0 [I n.now,Sl a1 n.way.length c1]]] (Ql (i+1,a10,c10,r3,xw++[(⟨l.to_,l.from_,l.since,n.now+x1,l.heads,l.reply⟩:JS)],G3) ⟨(Ja hle hl3),Kd,hr3,(by rw [hxw,Hy];exact congrArg _ (Jot (fun k=>Jos l (n.now+k)) hx1))⟩ (by (try dsimp only);omega))))))))))))))
 refine KX (J1 (Ke (JV (Jc (QB [2,7,0] [(7,I 0)] [[Sg b4 0 [I n.now,Sl aw xw.length cw]],rw,[Sg b3 0 [I n.now,Sl aw xw.length cw]],[Sg b2 0 (Kw l a2 c2 a3 c3 a4 c4)],[Sg b1 0 [I n.now,Sl a1 n.way.length c1]]] (Jn (Wv (E:=Kl) 1 hrw (by have q_:=QV ‹_›;have q1_:=congrArg Hn hxw;(try simp only [Kl,Hc,He,Hh,Hm,Hl] at *);omega) (fun G4 hl4 hs8=>?_))))))))
 have hf4:Ky n l fates=((⟨n.now,xw⟩:Y7),0):=by
  unfold Ky Jb1;(rw [if_neg (by omega),if_neg (by simp_all),if_neg (by omega),hxw,Hk (by omega)])
 refine Jo [2,0] [.agg #[I n.now,Sl aw xw.length cw],I 0] (JD [] (Ja (Ja hle1 hle) hl4) ?_)
 rw [hf4]
 try dsimp only
 exact ⟨aw,cw,rfl,‹_›,hs8,rfl⟩
theorem Jjh (G:J4) (vs_n:Bv) (n:Y7) (h_n:ENet.R G vs_n n) :YL 111 #[.agg vs_n.toArray] G [] (fun u G' L'=>∃ (a1:Ba) (c2:Nat) (a3:Ba) (c4:Nat),u=.tuple #[.agg #[I (((Ks n).1).now),Sl a1 ((((Ks n).1).way).length) c2],Sl a3 (((Ks n).2.1).length) c4,I ((Ks n).2.2)]∧(rI (((Ks n).1).now))∧(RS Kl G' a1 c2 (((Ks n).1).way))∧(RS Kl G' a3 c4 ((Ks n).2.1))∧L'=[]):=by
 obtain ⟨a1,c1,rfl,w1,hs1⟩:=h_n
 refine JQ Tryz.func111 50 [(0,.agg #[I n.now,Sl a1 n.way.length c1])] rfl (fun w0 G0=>?_)
 refine Jf (Jd (Jv 1 #[I n.now,Sl a1 n.way.length c1] 65 (fun b1=>Jv 2 #[I 0,Sl none 0 0] 65 (fun b2=>Jb [0,0] [] (Je (Jc (Jf (Jf (Jd (Jb [4] [(10,.agg #[I n.now,Sl a1 n.way.length c1])] (Jl 11 (I (Qh n)) (JdH G [I n.now,Sl a1 n.way.length c1] n (⟨a1,c1,rfl,w1,hs1⟩)) (Jb [0] [(5,I (Qh n))] (Je (Jc (Jg [0,0] [(13,Bo (!decide (Qh n=0)))] (Jm (!decide (Qh n=0)) (fun h1=>?_) (fun h1=>?_)))))))))))))))))
 refine Jg [0,0,3,0,0] [(3,Sl none 0 0),(4,I (Qh n))] (Jn (Jj ?_))
 have hf1:Ks n=((⟨0,[]⟩:Y7),[],Qh n):=by
  unfold Ks Jb1;(simp_all;done)
 refine Jo [0,0,0] [.agg #[I 0,Sl none 0 0],Sl none 0 0,I (Qh n)] (JD [] (Jh _) ?_)
 rw [hf1]
 try dsimp only
 exact ⟨none,0,none,0,rfl,Kd,(J2 Kl G),(J2 Kl G),rfl⟩
 refine Jq (Jc (Jf (Jg [0,4,0] [(18,Bo (decide (n.now=1000000000)))] (Jm (decide (n.now=1000000000)) (fun h2=>?_) (fun h2=>?_)))))
 refine Jg [0,3,0,0] [(3,Sl none 0 0),(4,I 9)] (Jn (Jj ?_))
 have hf2:Ks n=((⟨0,[]⟩:Y7),[],9):=by
  unfold Ks Jb1;(simp_all;done)
 refine Jo [0,0,0] [.agg #[I 0,Sl none 0 0],Sl none 0 0,I 9] (JD [] (Jh _) ?_)
 rw [hf2]
 try dsimp only
 exact ⟨none,0,none,0,rfl,Kd,(J2 Kl G),(J2 Kl G),rfl⟩
 refine Jq (Jc (Jf (Jd (Jb [0,4,0,0] [(23,.agg #[I (Hb.wrap (n.now+1)),Sl none 0 0])] ?_))))
 have e1:Hb.wrap (n.now+1)=n.now+1:=Ho _ (by (have q_:=QV ‹_›;omega))
 refine KG 23 (.agg #[I (n.now+1),Sl none 0 0]) (show (.agg #[I (Hb.wrap (n.now+1)),Sl none 0 0]:Value)=.agg #[I (n.now+1),Sl none 0 0] by simp only [e1]) ?_
 clear e1
 refine Jv 6 #[I 0,Sl none 0 0] 65 (fun b3=>JT [3] [] [[Sg b3 0 [I (n.now+1),Sl none 0 0]],[Sg b2 0 [I 0,Sl none 0 0]],[Sg b1 0 [I n.now,Sl a1 n.way.length c1]]] (Je (Jc (Jg [0] [(7,Sl none 0 0)] (Jf (Jf (Jd (Jb [0,6] [(25,Sl a1 n.way.length c1)] (JM 26 (JbD G a1 c1 n.way hs1 (by (have q_:=QV ‹_›;omega))) (fun v G1 L1 hl1 hp=>?_))))))))))
 obtain ⟨a2,c2,_,rfl,hr1,rfl⟩:=hp
 refine Jb [0,0] [(27,I (n.way.length:Int)),(28,I 0)] (Je (Jc (Jy (Jhv (E:=Kl) 0 hr1 (by exact (hs1).fit) (fun G2 hl2 hs2=>ZU (ZU ?_))))))
 have hlm_hs2:n.way.length≤9223372036854775807:=Hf (hs2).le (hs2).max
 refine Qe (σ:=Nat×Ba×Nat×Bg×List JS×Ba×Nat×Bg×List JS×J4) (fun q_=>(J4.le G2 q_.2.2.2.2.2.2.2.2.2)∧(q_.1≤n.way.length)∧(JX Kl q_.2.2.2.2.2.2.2.2.2 q_.2.1 q_.2.2.1 q_.2.2.2.2.1 q_.2.2.2.1)∧(q_.2.2.2.2.1=(n.way.take q_.1).filter fun l=>decide (l.due=n.now+1))∧(JX Kl q_.2.2.2.2.2.2.2.2.2 q_.2.2.2.2.2.1 q_.2.2.2.2.2.2.1 q_.2.2.2.2.2.2.2.2.1 q_.2.2.2.2.2.2.2.1)∧(q_.2.2.2.2.2.2.2.2.1=(n.way.take q_.1).filter fun l=>!decide (l.due=n.now+1))) (fun q_=>[(2,Pt b2 0),(6,Pt b3 0),(7,Sl q_.2.1 q_.2.2.2.2.1.length q_.2.2.1),(26,Sl a2 n.way.length c2),(27,I (n.way.length:Int)),(28,I (q_.1:Int))]) (fun q_=>q_.2.2.2.2.2.2.2.2.2) (fun q_=>[q_.2.2.2.2.2.2.2.1,q_.2.2.2.1,[],[Sg b3 0 [I (n.now+1),Sl q_.2.2.2.2.2.1 q_.2.2.2.2.2.2.2.2.1.length q_.2.2.2.2.2.2.1]],[Sg b2 0 [I 0,Sl none 0 0]],[Sg b1 0 [I n.now,Sl a1 n.way.length c1]]]) (fun q_=>n.way.length-q_.1) (0,none,0,[],[],none,0,[],[],G2) ⟨(Jh _),(by (try dsimp only);exact Hs _),(JX.none Kl _),(by (try dsimp only);rfl),(JX.none Kl _),(by (try dsimp only);rfl)⟩ (fun q_ hs=>?_)
 obtain ⟨i,ac,cc,rc,xc,aw,cw,rw,xw,g⟩:=q_
 obtain ⟨hle,hi,hrc,hxc,hrw,hxw⟩:=hs
 dsimp only at hle hi hrc hxc hrw hxw
 dsimp only
 refine Jg [0] [(29,Bo (decide ((i:Int)<(n.way.length:Int))))] (Jf (Jm (decide ((i:Int)<(n.way.length:Int))) (fun h3=>?_) (fun h3=>?_)))
 refine Jq (Jc (Jf (Jy (Jf (Jd ?_)))))
 obtain ⟨b4,o1,rfl⟩:=RS.addr (hs2.mono hle) (k:=i) (by omega)
 obtain ⟨x1,hx1⟩:=QQ (l:=n.way) (k:=i) (by omega)
 obtain ⟨_,⟨a3,c3,a4,c4,a5,c5,rfl,w2,w3,w4,w5,hs3,w6,w7,w8,w9,w10,hs4,hs5⟩,hc1⟩:=RS.get (hs2.mono hle) hx1
 refine JW (b:=b4) (off:=o1) (len:=n.way.length) (cap:=c2) (ik:=.i64) 30 51 12 i Kd (JO 31 51 (cs:=(Kw x1 a3 c3 a4 c4 a5 c5)) 0 (QZ x1 a3 c3 a4 c4 a5 c5) hc1 (Jv 9 #[I 0,I 0,I 0,I 0,Sl none 0 0,I 0,U 0,U 0,I 0,Sr ([]),Sl none 0 0,Sl none 0 0] 51 (fun b5=>JT [3] [] [[Sg b5 0 (Kw x1 a3 c3 a4 c4 a5 c5)],rw,rc,[],[Sg b3 0 [I (n.now+1),Sl aw xw.length cw]],[Sg b2 0 [I 0,Sl none 0 0]],[Sg b1 0 [I n.now,Sl a1 n.way.length c1]]] (Je (Jc (Jg [0,2,0,10,0] [(36,Bo (decide (x1.due=n.now+1)))] (Jm (decide (x1.due=n.now+1)) (fun h4=>?_) (fun h4=>?_))))))))
 exact Jd (Jb [0,2] [(37,Sl ac xc.length cc),(38,(QZ x1 a3 c3 a4 c4 a5 c5))] (Kq 39 1 #[I x1.to_,I x1.from_,I x1.since,I x1.due,Sl a3 x1.heads.length c3,I x1.reply.head.epoch,U x1.reply.head.root,U x1.reply.head.prev,I x1.reply.head.at_,Sr x1.reply.proof.name,Sl a4 x1.reply.proof.entries.length c4,Sl a5 x1.reply.proof.sides.length c5] 51 (fun b6=>Qm (b:=b6) (cs:=(Kw x1 a3 c3 a4 c4 a5 c5)) 40 51 3 0 (E:=Kl) x1 hrc ⟨a3,c3,a4,c4,a5,c5,rfl,w2,w3,w4,w5,hs3,w6,w7,w8,w9,w10,hs4,hs5⟩ (by have q_:=QV ‹_›;have q1_:=congrArg Hn hxc;have q2_:=congrArg Hn hxw;have q3_:=Wf (fun l:JS=>decide (l.due=n.now+1)) n.way i;have q4_:=Wf (fun l:JS=>!decide (l.due=n.now+1)) n.way i;(try simp only [Kl,Hc,He,Hh,Hm,Hl] at *);omega) (by have q_:=QV ‹_›;have q1_:=congrArg Hn hxc;have q2_:=congrArg Hn hxw;have q3_:=Wf (fun l:JS=>decide (l.due=n.now+1)) n.way i;have q4_:=Wf (fun l:JS=>!decide (l.due=n.now+1)) n.way i;(try simp only [Kl,Hc,He,Hh,Hm,Hl] at *);omega) (fun a6 c6 r2 hr2=>Jb [0] [(7,Sl a6 ((xc++[x1]).length) c6)] (Je (JN (Jc (Jd (Jb [0,0] [(28,I (Hb.wrap ((i:Int)+1)))] (Ku 28 ((i:Int)+1) Kd (Je (QA [rw,r2,[],[Sg b3 0 [I (n.now+1),Sl aw xw.length cw]],[Sg b2 0 [I 0,Sl none 0 0]],[Sg b1 0 [I n.now,Sl a1 n.way.length c1]]] (Ql (i+1,a6,c6,r2,xc++[x1],aw,cw,rw,xw,g) ⟨(Ja hle (Jh _)),Kd,hr2,(by rw [hxc];exact JeM hx1 (by simp_all)),hrw,(by rw [hxw];exact JeN hx1 (by simp_all))⟩ (by (try dsimp only);omega))))))))))))))
 exact Jd (Jb [0,10,2] [(42,Sl aw xw.length cw),(43,(QZ x1 a3 c3 a4 c4 a5 c5))] (Kq 44 1 #[I x1.to_,I x1.from_,I x1.since,I x1.due,Sl a3 x1.heads.length c3,I x1.reply.head.epoch,U x1.reply.head.root,U x1.reply.head.prev,I x1.reply.head.at_,Sr x1.reply.proof.name,Sl a4 x1.reply.proof.entries.length c4,Sl a5 x1.reply.proof.sides.length c5] 51 (fun b7=>Qm (b:=b7) (cs:=(Kw x1 a3 c3 a4 c4 a5 c5)) 45 51 2 0 (E:=Kl) x1 hrw ⟨a3,c3,a4,c4,a5,c5,rfl,w2,w3,w4,w5,hs3,w6,w7,w8,w9,w10,hs4,hs5⟩ (by have q_:=QV ‹_›;have q1_:=congrArg Hn hxc;have q2_:=congrArg Hn hxw;have q3_:=Wf (fun l:JS=>decide (l.due=n.now+1)) n.way i;have q4_:=Wf (fun l:JS=>!decide (l.due=n.now+1)) n.way i;(try simp only [Kl,Hc,He,Hh,Hm,Hl] at *);omega) (by have q_:=QV ‹_›;have q1_:=congrArg Hn hxc;have q2_:=congrArg Hn hxw;have q3_:=Wf (fun l:JS=>decide (l.due=n.now+1)) n.way i;have q4_:=Wf (fun l:JS=>!decide (l.due=n.now+1)) n.way i;(try simp only [Kl,Hc,He,Hh,Hm,Hl] at *);omega) (fun a7 c7 r3 hr3=>JT [0,13] [] [[Sg b7 0 (Kw x1 a3 c3 a4 c4 a5 c5)],[Sg b5 0 (Kw x1 a3 c3 a4 c4 a5 c5)],r3,rc,[],[Sg b3 0 [I (n.now+1),Sl a7 ((xw++[x1]).length) c7]],[Sg b2 0 [I 0,Sl none 0 0]],[Sg b1 0 [I n.now,Sl a1 n.way.length c1]]] (Je (JN (Jc (Jd (Jb [0,0] [(28,I (Hb.wrap ((i:Int)+1)))] (Ku 28 ((i:Int)+1) Kd (Je (QA [r3,rc,[],[Sg b3 0 [I (n.now+1),Sl a7 ((xw++[x1]).length) c7]],[Sg b2 0 [I 0,Sl none 0 0]],[Sg b1 0 [I n.now,Sl a1 n.way.length c1]]] (Ql (i+1,ac,cc,rc,xc,a7,c7,r3,xw++[x1],g) ⟨(Ja hle (Jh _)),Kd,hrc,(by rw [hxc];exact JeN hx1 (by simp_all)),hr3,(by rw [hxw];exact JeM hx1 (by simp_all))⟩ (by (try dsimp only);omega))))))))))))))
 refine KX (J1 (Ke (JV (Jc (QB [8,0,11,0,0] [(3,Sl ac xc.length cc),(4,I 0)] [rw,rc,[],[Sg b3 0 [I (n.now+1),Sl aw xw.length cw]],[Sg b2 0 [I (n.now+1),Sl aw xw.length cw]],[Sg b1 0 [I n.now,Sl a1 n.way.length c1]]] (Jn (Wv (E:=Kl) 0 hrw (by have q_:=QV ‹_›;have q1_:=congrArg Hn hxc;have q2_:=congrArg Hn hxw;have q3_:=Wf (fun l:JS=>decide (l.due=n.now+1)) n.way i;have q4_:=Wf (fun l:JS=>!decide (l.due=n.now+1)) n.way i;(try simp only [Kl,Hc,He,Hh,Hm,Hl] at *);omega) (fun G3 hl3 hs6=>Wv (E:=Kl) 1 (hrc.mono hl3) (by have q_:=QV ‹_›;have q1_:=congrArg Hn hxc;have q2_:=congrArg Hn hxw;have q3_:=Wf (fun l:JS=>decide (l.due=n.now+1)) n.way i;have q4_:=Wf (fun l:JS=>!decide (l.due=n.now+1)) n.way i;(try simp only [Kl,Hc,He,Hh,Hm,Hl] at *);omega) (fun G4 hl4 hs7=>?_)))))))))
 have hf3:Ks n=((⟨n.now+1,xw⟩:Y7),xc,0):=by
  unfold Ks Jb1;(rw [if_neg (by omega),if_neg (by omega),hxw,hxc,Hk (by omega)])
 refine Jo [4,0,0] [.agg #[I (n.now+1),Sl aw xw.length cw],Sl ac xc.length cc,I 0] (JD [] (Ja (Ja (Ja (Ja hl1 hl2) hle) hl3) hl4) ?_)
 rw [hf3]
 try dsimp only
 exact ⟨aw,cw,ac,cc,rfl,(by (have q_:=QV ‹_›;omega)),(hs6.mono hl4),hs7,rfl⟩
structure JI where
 town:Wj
 reach:Int
 fates:List (List Int)
 events:List Yg
deriving DecidableEq
def Zg (t:JI) (k:Int):Bool:=decide (k ≥ 0) && decide (k<t.town.owners.length)
abbrev Q8 (t:JI) (kind who n a:Int):JI:=⟨t.town,t.reach,t.fates,t.events++[⟨kind,who,n,a⟩]⟩
def Jly (t:JI):List Int:=if t.fates.length > 0 then t.fates[0]?.getD [] else [1]
def Wm (t:JI) (l:JS):JI:=⟨⟨t.town.clerk,t.town.owners,t.town.polls,if (Ky t.town.net l (Jly t)).2=0 then (Ky t.town.net l (Jly t)).1 else t.town.net⟩,t.reach,t.fates.drop 1,t.events⟩
theorem Jov {t:JI} (h:¬ 0<t.fates.length) (l:JS):Wm t l=⟨⟨t.town.clerk,t.town.owners,t.town.polls,if (Ky t.town.net l [1]).2=0 then (Ky t.town.net l [1]).1 else t.town.net⟩,t.reach,t.fates,t.events⟩:=by
 have h0:t.fates=[]:=List.eq_nil_of_length_eq_zero (by omega)
 unfold Wm Jly
 rw [h0];rfl
theorem Jow {t:JI} (h:0<t.fates.length) {f:List Int} (hf:t.fates[0]? = some f) (l:JS):Wm t l=⟨⟨t.town.clerk,t.town.owners,t.town.polls,if (Ky t.town.net l f).2=0 then (Ky t.town.net l f).1 else t.town.net⟩,t.reach,t.fates.drop 1,t.events⟩:=by
 unfold Wm Jly
 rw [if_pos h,hf];rfl
def Js (t:JI) (k:Int):Qn:=t.town.owners[k.toNat]?.getD VP
def Qx (t:JI) (k:Int):We:=t.town.polls[k.toNat]?.getD VL
theorem YW {t:JI} {n:Nat} (h:n<t.town.owners.length):t.town.owners[n]? = some (Js t (n:Int)):=by unfold Js;rw [Int.toNat_natCast,Hp h];rfl
theorem Jf1 {t:JI} {n:Nat} (h:n<t.town.polls.length):t.town.polls[n]? = some (Qx t (n:Int)):=by unfold Qx;rw [Int.toNat_natCast,Hp h];rfl
def Wi (t:JI) (d:K4):JI :=
 if Zg t d.who=false then t
 else if ¬ (JP (Js t d.who) d.value).2.2=0∨Yi (JP (Js t d.who) d.value).1.key (JP (Js t d.who) d.value).2.1=false then t
 else if ¬ (KB t.town.clerk (JP (Js t d.who) d.value).2.1).2.2=0 then t
 else ⟨⟨(KB t.town.clerk (JP (Js t d.who) d.value).2.1).1,t.town.owners.set d.who.toNat (JP (Js t d.who) d.value).1,t.town.polls,t.town.net⟩,t.reach,t.fates,t.events++[⟨1,d.who,(Js t d.who).wanted.length,(KB t.town.clerk (JP (Js t d.who) d.value).2.1).2.1⟩]⟩
theorem tWant0 {t:JI} {d:K4} (h:Zg t d.who=false):Wi t d=t:=by unfold Wi;rw [if_pos h]
theorem tWant1 {t:JI} {d:K4} {k:Int} (hk:d.who=k) (h0:Zg t d.who=true) (h:¬ (JP (Js t k) d.value).2.2=0):Wi t d=t:=by
 subst hk;unfold Wi;rw [if_neg (by rw [h0];simp),if_pos (.inl h)]
theorem tWant2 {t:JI} {d:K4} {k:Int} (hk:d.who=k) (h0:Zg t d.who=true) (h:Yi (JP (Js t k) d.value).1.key (JP (Js t k) d.value).2.1=false):Wi t d=t:=by
 subst hk;unfold Wi;rw [if_neg (by rw [h0];simp),if_pos (.inr h)]
theorem tWant3 {t:JI} {d:K4} {k:Int} (hk:d.who=k) (h0:Zg t d.who=true) (h:¬ (KB t.town.clerk (JP (Js t k) d.value).2.1).2.2=0):Wi t d=t:=by
 subst hk;unfold Wi;rw [if_neg (by rw [h0];simp)]
 split
 · rfl
 · rfl
theorem tWant4 {t:JI} {d:K4} {k:Int} {n:Nat} (hk:d.who=k) (hn:k=(n:Int)) (h0:Zg t d.who=true) (h1:(JP (Js t k) d.value).2.2=0) (h2:Yi (JP (Js t k) d.value).1.key (JP (Js t k) d.value).2.1=true) (h3:(KB t.town.clerk (JP (Js t k) d.value).2.1).2.2=0) :
  Wi t d=Q8 ⟨⟨(KB t.town.clerk (JP (Js t k) d.value).2.1).1,t.town.owners.set n (JP (Js t k) d.value).1,t.town.polls,t.town.net⟩,t.reach,t.fates,t.events⟩ 1 k (Js t k).wanted.length (KB t.town.clerk (JP (Js t k) d.value).2.1).2.1:=by
 subst hk;unfold Wi
 rw [if_neg (by rw [h0];simp),if_neg (by rw [h2];simp [h1]),if_neg (by simpa using h3)]
 unfold Q8;rw [show d.who.toNat=n by omega]
def Z9 (t:JI) (l:JS):JI:=⟨⟨t.town.clerk,t.town.owners.set l.to_.toNat (JC (Js t l.to_) l.heads l.reply).1,if (JC (Js t l.to_) l.heads l.reply).2.1=0∨(JC (Js t l.to_) l.heads l.reply).2.1=1 then t.town.polls.set l.to_.toNat (Wa (Qx t l.to_) t.town.clerk.now).1 else t.town.polls,t.town.net⟩,t.reach,t.fates,t.events++[⟨2,l.to_,(JC (Js t l.to_) l.heads l.reply).2.1,(JC (Js t l.to_) l.heads l.reply).1.head.epoch⟩]⟩
def minI (a b:Int):Int:=if b<a then b else a
def maxI (a b:Int):Int:=if b > a then b else a
def WZ (t:JI):Int:=(t.town.clerk.heads.length:Int)-1
def WQ (t:JI) (l:JS):Int:=maxI (minI l.since (WZ t)) 0
def Vp (t:JI) (l:JS):Int:=minI (WQ t l+t.reach-1) (WZ t)
def Qj (t:JI) (l:JS):JI:=if Zg t l.from_=false then t else Wm t ⟨l.from_,0,0,0,(ZJ t.town.clerk (WQ t l) (Vp t l)).1,(JL t.town.clerk (Js t l.from_).name (Vp t l)).1⟩
def JaU (t:JI) (k:Int):JI:=Wm ⟨⟨t.town.clerk,t.town.owners,t.town.polls.set k.toNat (KP (Qx t k) t.town.clerk.now).1,t.town.net⟩,t.reach,t.fates,t.events⟩ ⟨-1,k,(Js t k).head.epoch+1,0,[],Jeh⟩
def Zu (t:JI) (k:Int):JI :=
 if ¬ (KP (Qx t k) t.town.clerk.now).2=0 then t
 else if Jbh (KP (Qx t k) t.town.clerk.now).1=true∧Jbh (Qx t k)=false then Q8 (JaU t k) 3 k 0 t.town.clerk.now else JaU t k
def Vl (t:JI):JI:=⟨⟨(KV t.town.clerk).1,t.town.owners,t.town.polls,(Ks t.town.net).1⟩,t.reach,t.fates,t.events⟩
def Yc (t:JI) (l:JS):JI:=if l.to_<0 then Qj t l else Z9 t l
def Zf (t:JI) (l:List JS):JI:=l.foldl Yc t
def Jb2 (t:JI) (n:Nat):JI:=(List.range n).foldl (fun t (k:Nat)=>Zu t (k:Int)) t
def WI (t:JI):JI:=if (KV t.town.clerk).1.now=t.town.clerk.now then t else Jb2 (Zf (Vl t) (Ks t.town.net).2.1) (Zf (Vl t) (Ks t.town.net).2.1).town.owners.length
def Jji (l:JS) (k:Int):JS:=⟨k,l.from_,l.since,l.due,l.heads,l.reply⟩
def Jf2 (t:JI) (d:K4):JI:=if Zg t d.who=false then t else ⟨⟨t.town.clerk,t.town.owners,t.town.polls,if (Ky t.town.net (Jji d.letter d.who) [1]).2=0 then (Ky t.town.net (Jji d.letter d.who) [1]).1 else t.town.net⟩,t.reach,t.fates,t.events⟩
def Y3 (t:JI) (d:K4):JI:=if d.kind=1 then Wi t d else if d.kind=2 then ⟨t.town,t.reach,t.fates++[d.fates],t.events⟩ else if d.kind=3 then Jf2 t d else if d.kind=4 then WI t else t
structure Yu (t u:JI) (k:Nat):Prop where
 ev:∃ m,u.events=t.events++m∧m.length≤k
 own:u.town.owners.length=t.town.owners.length
 polls:u.town.polls.length=t.town.polls.length
 reach:u.reach=t.reach
theorem Yu.refl (t:JI) (k:Nat):Yu t t k:=⟨⟨[],by simp,by simp⟩,rfl,rfl,rfl⟩
theorem Yu.trans {t u v:JI} {j k:Nat} (h:Yu t u j) (h2:Yu u v k):Yu t v (j+k):=by
 obtain ⟨m,e,l⟩:=h.ev;obtain ⟨n,e2,l2⟩:=h2.ev
 exact ⟨⟨m++n,by rw [e2,e,Hy],by simp;omega⟩,h2.own.trans h.own,h2.polls.trans h.polls,h2.reach.trans h.reach⟩
theorem Yu.mono {t u:JI} {j k:Nat} (h:Yu t u j) (hk:j≤k):Yu t u k:=by
 obtain ⟨m,e,l⟩:=h.ev
 exact ⟨⟨m,e,Hf l hk⟩,h.own,h.polls,h.reach⟩
theorem Yu.len {t u:JI} {k:Nat} (h:Yu t u k):u.events.length≤t.events.length+k∧t.events.length≤u.events.length:=by
 obtain ⟨m,e,l⟩:=h.ev;rw [e];simp;omega
theorem g_send (t:JI) (l:JS):Yu t (Wm t l) 0:=⟨⟨[],by simp [Wm],by simp⟩,rfl,rfl,rfl⟩
theorem g_want (t:JI) (d:K4):Yu t (Wi t d) 1:=by
 unfold Wi
 split
 · exact Yu.refl t 1
 split
 · exact Yu.refl t 1
 split
 · exact Yu.refl t 1
 · exact ⟨⟨_,rfl,by simp⟩,by simp,rfl,rfl⟩
theorem Jox (t:JI) (l:JS):Yu t (Qj t l) 0:=by
 unfold Qj
 split
 · exact Yu.refl t 0
 · exact g_send t _
theorem g_see (t:JI) (l:JS):Yu t (Z9 t l) 1:=by
 refine ⟨⟨_,rfl,by simp⟩,by simp [Z9],?_,rfl⟩
 unfold Z9;simp only
 split <;> simp
theorem Joy (t:JI) (k:Int):Yu t (JaU t k) 0:=⟨⟨[],by simp [JaU,Wm],by simp⟩,rfl,by simp [JaU,Wm],rfl⟩
theorem g_ask (t:JI) (k:Int):Yu t (Zu t k) 1:=by
 unfold Zu
 split
 · exact Yu.refl t 1
 split
 · refine (Joy t k).trans (k:=1) ⟨⟨_,rfl,by simp⟩,rfl,rfl,rfl⟩
 · exact (Joy t k).mono (by omega)
theorem Jjj (t:JI) (l:JS):Yu t (Yc t l) 1:=by
 unfold Yc
 split
 · exact (Jox t l).mono (by omega)
 · exact g_see t l
theorem Jei:∀ (l:List JS) (t:JI),Yu t (Zf t l) l.length
 | [],t=>Yu.refl t 0
 | x::l,t=>by
  have:=(Jjj t x).trans (Jei l (Yc t x))
  exact this.mono (by simp;omega)
theorem JgI (t:JI) (l:List JS) (x:JS):Zf t (l++[x])=Yc (Zf t l) x:=by simp [Zf,Hz]
theorem JcG {t:JI} {l:List JS} {i:Nat} {x:JS} (h:l[i]? = some x):Yc (Zf t (l.take i)) x=Zf t (l.take (i+1)):=by
 rw [Hj,h,← JgI];rfl
theorem JaJ (t:JI) (n:Nat):Zu (Jb2 t n) (n:Int)=Jb2 t (n+1):=by simp [Jb2,List.range_succ,Hz]
theorem JkA (t:JI):∀ n,Yu t (Jb2 t n) n
 | 0=>Yu.refl t 0
 | n+1=>by rw [← JaJ];exact (JkA t n).trans (g_ask _ _)
theorem Jjk (n:Y7):(Ks n).2.1.length≤60:=by
 unfold Ks
 split
 · simp
 split
 · simp
 ·
  rename_i h1 h2
  have:=QV (Hd.1 h1)
  have h3:=HB (fun l:JS=>decide (l.due=n.now+1)) n.way
  simp only;omega
theorem g_tick {t:JI} (h:t.town.owners.length≤4):Yu t (WI t) 64:=by
 unfold WI
 split
 · exact Yu.refl t 64
 ·
  have h1:Yu t (Vl t) 0:=⟨⟨[],by simp [Vl],by simp⟩,rfl,rfl,rfl⟩
  have h2:=h1.trans (Jei (Ks t.town.net).2.1 (Vl t))
  have h3:=h2.trans (JkA (Zf (Vl t) (Ks t.town.net).2.1) (Zf (Vl t) (Ks t.town.net).2.1).town.owners.length)
  have h4:=Jjk t.town.net
  exact h3.mono (by rw [h2.own];omega)
theorem g_say (t:JI) (d:K4):Yu t (Jf2 t d) 0:=by
 unfold Jf2
 split
 · exact Yu.refl t 0
 · exact ⟨⟨[],by simp,by simp⟩,rfl,rfl,rfl⟩
theorem g_do {t:JI} (h:t.town.owners.length≤4) (d:K4):Yu t (Y3 t d) 64:=by
 unfold Y3
 split
 · exact (g_want t d).mono (by omega)
 split
 · exact ⟨⟨[],by simp,by simp⟩,rfl,rfl,rfl⟩
 split
 · exact (g_say t d).mono (by omega)
 split
 · exact g_tick h
 · exact Yu.refl t 64
def WV (t:JI):Prop:=∀ l∈t.town.net.way,l.to_<t.town.owners.length
theorem JeP {n:Y7} {l x:JS} {f:List Int} (hk:(Ky n l f).2=0) (h:x∈(Ky n l f).1.way):x∈n.way∨x.to_=l.to_:=by
 unfold Ky at hk h
 split at h
 · simp [Jb1] at h
 split at h
 · simp [Jb1] at h
 split at h
 · simp [Jb1] at h
 ·
  simp only [Hi,List.mem_map] at h
  rcases h with h | ⟨k,_,rfl⟩
  · exact .inl h
  · exact .inr rfl
theorem Jjl {n:Y7} {x:JS} (h:x∈(Ks n).1.way):x∈n.way:=by
 unfold Ks at h
 split at h
 · simp [Jb1] at h
 split at h
 · simp [Jb1] at h
 · exact (HL.1 h).1
theorem Jf3 {n:Y7} {x:JS} (h:x∈(Ks n).2.1):x∈n.way:=by
 unfold Ks at h
 split at h
 · simp at h
 split at h
 · simp at h
 · exact (HL.1 h).1
theorem Joz {t:JI} {l:JS} (h:WV t) (hl:l.to_<t.town.owners.length):WV (Wm t l):=by
 intro x hx
 unfold Wm at hx ⊢
 simp only at hx ⊢
 split at hx
 ·
  rename_i hk
  rcases JeP hk hx with h2 | h2
  · exact h x h2
  · omega
 · exact h x hx
theorem JaK {t:JI} {k:Int}:Zg t k=true ↔ 0≤k∧k<t.town.owners.length:=by unfold Zg;simp
theorem w_want {t:JI} (h:WV t) (d:K4):WV (Wi t d):=by
 unfold Wi
 split
 · exact h
 split
 · exact h
 split
 · exact h
 · intro x hx;have:=h x hx;simpa using this
theorem JoA {t:JI} (h:WV t) (l:JS):WV (Qj t l):=by
 unfold Qj
 split
 · exact h
 ·
  rename_i h1
  exact Joz h (JaK.1 (by simpa using h1)).2
theorem w_see {t:JI} (h:WV t) (l:JS):WV (Z9 t l):=by
 intro x hx;have:=h x hx;simpa [Z9] using this
theorem JoB {t:JI} (h:WV t) (k:Int):WV (JaU t k):=by
 unfold JaU
 exact Joz (t:=⟨⟨t.town.clerk,t.town.owners,t.town.polls.set k.toNat (KP (Qx t k) t.town.clerk.now).1,t.town.net⟩,t.reach,t.fates,t.events⟩) h (by simp only;omega)
theorem w_ask {t:JI} (h:WV t) (k:Int):WV (Zu t k):=by
 unfold Zu
 split
 · exact h
 split
 · exact JoB h k
 · exact JoB h k
theorem JoC {t:JI} (h:WV t) (l:JS):WV (Yc t l):=by
 unfold Yc
 split
 · exact JoA h l
 · exact w_see h l
theorem Jej:∀ (l:List JS) {t:JI},WV t→WV (Zf t l)
 | [],_,h=>h
 | x::l,t,h=>Jej l (JoC h x)
theorem JkB {t:JI} (h:WV t):∀ n,WV (Jb2 t n)
 | 0=>h
 | n+1=>by rw [← JaJ];exact w_ask (JkB h n) _
theorem Jlz {t:JI} (h:WV t):WV (Vl t):=fun x hx=>h x (Jjl hx)
theorem w_tick {t:JI} (h:WV t):WV (WI t):=by
 unfold WI
 split
 · exact h
 · exact JkB (Jej _ (Jlz h)) _
theorem w_say {t:JI} (h:WV t) (d:K4):WV (Jf2 t d):=by
 unfold Jf2
 split
 · exact h
 ·
  rename_i h1
  have h2:=(JaK.1 (by simpa using h1:Zg t d.who=true)).2
  intro x hx
  simp only at hx ⊢
  split at hx
  ·
   rename_i hk
   rcases JeP hk hx with h3 | h3
   · exact h x h3
   · rw [h3];exact h2
  · exact h x hx
theorem w_do {t:JI} (h:WV t) (d:K4):WV (Y3 t d):=by
 unfold Y3
 split
 · exact w_want h d
 split
 · exact h
 split
 · exact w_say h d
 split
 · exact w_tick h
 · exact h
def Jbi (t:JI) (l:List K4):JI:=l.foldl Y3 t
theorem JmL {t:JI} {l:List K4} {i:Nat} {d:K4} (h:l[i]? = some d):Y3 (Jbi t (l.take i)) d=Jbi t (l.take (i+1)):=by
 unfold Jbi;rw [Hj,h];simp [Hz]
theorem JoD:∀ (l:List K4) {t:JI},t.town.owners.length≤4→Yu t (Jbi t l) (64*l.length)
 | [],t,_=>Yu.refl t 0
 | d::l,t,h=>by
  have h1:=g_do h d
  have h2:=JoD l (t:=Y3 t d) (by rw [h1.own];exact h)
  exact (h1.trans h2).mono (by simp;omega)
def nmE:Bs→Bs→Int
 | _,[]=>0
 | p,n::l=>if KS n=false∨(p.any fun x=>decide (n=x))=true then 3 else nmE (p++[n]) l
def Z1 (s:Kx) (h:JU):List Qn:=(s.names.zip s.keys).map fun x=>(Kk x.1 x.2 h).1
def QM (s:Kx):Int:=if ¬ (J6 s.most s.batch s.every).2=0 then (J6 s.most s.batch s.every).2 else if s.names.length > 4 then 2 else if ¬ s.keys.length=s.names.length then 3 else if ¬ nmE [] s.names=0 then nmE [] s.names else if ¬ (KR s.least s.top s.lost).2=0 then (KR s.least s.top s.lost).2 else if s.reach<1∨s.reach > 40 then 4 else 0
def QD (s:Kx):JI:=⟨⟨(J6 s.most s.batch s.every).1,Z1 s (W0 (J6 s.most s.batch s.every).1.heads),HE (Z1 s (W0 (J6 s.most s.batch s.every).1.heads)).length (KR s.least s.top s.lost).1,⟨0,[]⟩⟩,s.reach,[],[]⟩
def JbK (s:Kx) (l:List K4):Int:=if ¬ QM s=0 then QM s else if l.length > 200 then 2 else 0
def JlA:Wj:=⟨Z8,[],[],⟨0,[]⟩⟩
def Jt (s:Kx) (l:List K4):Wj×List Yg×Int:=if ¬ JbK s l=0 then (JlA,[],JbK s l) else ((Jbi (QD s) l).town,(Jbi (QD s) l).events,0)
theorem Jan {s:Kx} (h:QM s=0):s.names.length≤4∧s.keys.length=s.names.length∧nmE [] s.names=0∧(J6 s.most s.batch s.every).2=0∧(KR s.least s.top s.lost).2=0∧1≤s.reach∧s.reach≤40:=by
 unfold QM at h
 split at h
 · contradiction
 split at h
 · cases h
 split at h
 · cases h
 split at h
 · contradiction
 split at h
 · contradiction
 split at h
 · cases h
 ·
  rename_i h1 h2 h3 h4 h5 h6
  exact ⟨by omega,Hd.1 h3,Hd.1 h4,Hd.1 h1,Hd.1 h5,by omega,by omega⟩
theorem JdI {s:Kx} (h:QM s=0) (x:JU):(Z1 s x).length=s.names.length:=by
 have:=Jan h
 unfold Z1;rw [Hl,List.length_zip];omega
theorem Jh3 {s:Kx} {l:List K4} (h:(Jt s l).2.2=0):QM s=0∧l.length≤200∧Jt s l=((Jbi (QD s) l).town,(Jbi (QD s) l).events,0):=by
 unfold Jt at h ⊢
 split at h
 · contradiction
 ·
  rename_i h1
  rw [if_neg h1]
  have h2:=Hd.1 h1
  unfold JbK at h2
  split at h2
  · contradiction
  split at h2
  · cases h2
  · rename_i a b;exact ⟨Hd.1 a,by omega,rfl⟩
theorem JoE {s:Kx} {l:List K4} (h:¬ (Jt s l).2.2=0):Jt s l=(JlA,[],JbK s l):=by
 unfold Jt at h ⊢
 split
 · rfl
 · rename_i h1;rw [if_neg h1] at h;exact absurd rfl h
structure ZM (s:Kx) (t:JI):Prop where
 clerk:Zn t.town.clerk
 net:Qh t.town.net=0
 now:t.town.net.now=t.town.clerk.now
 own:∀ (i:Nat) o,t.town.owners[i]? = some o→Kg o=0∧s.names[i]? = some o.name∧s.keys[i]? = some o.key
 poll:∀ (i:Nat) p,t.town.polls[i]? = some p→KL p=0
theorem JlB {n:Y7} (h:Qh n=0):∀ l∈n.way,n.now<l.due:=by
 unfold Qh at h
 split at h
 · cases h
 split at h
 · cases h
 split at h
 · cases h
 ·
  rename_i h3
  intro l hl
  have:¬ Je0 l n=true:=fun e=>h3 (Hu.2 ⟨l,hl,e⟩)
  unfold Je0 at this
  simp at this;omega
theorem JkC {n:Y7} (h1:0≤n.now) (h2:n.now≤1000000000) (h3:n.way.length≤60) (h4:∀ l∈n.way,n.now<l.due):Qh n=0:=by
 unfold Qh
 rw [if_neg (by omega),if_neg (by omega),if_neg]
 rw [Hu]
 rintro ⟨l,hl,e⟩
 have:=h4 l hl
 unfold Je0 at e
 simp at e;omega
theorem VV {n:Y7} {l:JS} {f:List Int} (h:(Ky n l f).2=0):Qh (Ky n l f).1=0∧(Ky n l f).1.now=n.now:=by
 unfold Ky at h ⊢
 split at h
 · contradiction
 split at h
 · cases h
 split at h
 · cases h
 ·
  rename_i h1 h2 h3
  rw [if_neg h1,if_neg h2,if_neg h3]
  have hc:=QV (Hd.1 h1)
  have ha:=JlB (Hd.1 h1)
  refine ⟨JkC (by simp only;omega) (by simp only;omega) (by simp only [Hc,Hl];omega) (fun x hx=>?_),rfl⟩
  simp only [Hi,List.mem_map] at hx
  rcases hx with hx | ⟨k,hk,rfl⟩
  · exact ha x hx
  ·
   have:¬ VD k=true:=fun e=>h2 (Hu.2 ⟨k,hk,e⟩)
   unfold VD at this
   simp at this
   show n.now<n.now+k
   omega
theorem JcH {n:Y7} (h:Qh n=0) (hn:¬ n.now=1000000000):Qh (Ks n).1=0∧(Ks n).1.now=n.now+1:=by
 have hc:=QV h
 have ha:=JlB h
 unfold Ks
 rw [if_neg (by omega),if_neg hn]
 refine ⟨JkC (by simp only;omega) (by simp only;omega) ?_ (fun x hx=>?_),rfl⟩
 ·
  have:=HB (fun l:JS=>!decide (l.due=n.now+1)) n.way
  simp only;omega
 ·
  have hx':=HL.1 hx
  have h1:=ha x hx'.1
  have h2:¬ x.due=n.now+1:=by simpa using hx'.2
  simp only;omega
theorem Jfi {α:Type} {l:List α} {k i:Nat} {v x:α} (h:(l.set k v)[i]? = some x):(k=i∧x=v∧k<l.length)∨(k ≠ i∧l[i]? = some x):=by
 by_cases e:k=i
 ·
  subst e
  have hl:=(Hq.1 h).1
  rw [Hw] at hl
  rw [HK hl] at h
  exact .inl ⟨rfl,(HN.inj h).symm,hl⟩
 · rw [List.getElem?_set_ne e] at h;exact .inr ⟨e,h⟩
theorem JeQ {t:JI} {k:Int} (h:k.toNat<t.town.owners.length):t.town.owners[k.toNat]? = some (Js t k):=by unfold Js;rw [Hp h];rfl
theorem JkD {t:JI} {k:Int} (h:k.toNat<t.town.polls.length):t.town.polls[k.toNat]? = some (Qx t k):=by unfold Qx;rw [Hp h];rfl
theorem JoF {s:Kx} {t:JI} (h:ZM s t) (l:JS):ZM s (Wm t l):=by
 refine ⟨h.clerk,?_,?_,h.own,h.poll⟩ <;> (unfold Wm;simp only;split)
 · rename_i hk;exact (VV hk).1
 · exact h.net
 · rename_i hk;rw [(VV hk).2];exact h.now
 · exact h.now
theorem i_want {s:Kx} {t:JI} (h:ZM s t) (d:K4):ZM s (Wi t d):=by
 unfold Wi
 split
 · exact h
 rename_i h0
 split
 · exact h
 split
 · exact h
 ·
  rename_i h1 h2
  simp only [not_or,Hx] at h1
  have hw:=Hd.1 h1.1
  have ha:=Hd.1 h2
  have hd:=JaK.1 (by simpa using h0:Zg t d.who=true)
  obtain ⟨w1,w2,w3,w4,w5⟩:=JhU hw
  have hnow:(KB t.town.clerk (JP (Js t d.who) d.value).2.1).1.now=t.town.clerk.now:=by rw [(JeI ha).2.2.2.2]
  refine ⟨JfX ha,h.net,by simp only;rw [hnow];exact h.now,fun i o ho=>?_,h.poll⟩
  rcases Jfi ho with ⟨rfl,rfl,_⟩ | ⟨_,ho⟩
  ·
   obtain ⟨q1,q2,q3⟩:=h.own _ _ (JeQ (k:=d.who) (by omega))
   refine ⟨w5.1,?_,?_⟩ <;> rw [w4]
   · exact q2
   · exact q3
  · exact h.own i o ho
theorem JmM {o:Qn} {l:List JU} {r:Q5} (h:Kg o=0):Kg (JC o l r).1=0∧(JC o l r).1.name=o.name∧(JC o l r).1.key=o.key∧(JC o l r).1.wanted=o.wanted:=by
 by_cases hv:(JZ o l r).1=0
 ·
  have e:JC o l r=(⟨o.name,o.key,r.head,o.wanted,(JZ o l r).2⟩,0,0):=by unfold JC;rw [if_neg (by omega),if_pos hv]
  have h1:(JC o l r).2.2=0:=by rw [e]
  have h2:(JC o l r).2.1=0:=by rw [e]
  exact ⟨(Jok h1 h2).2.2.2.2.1,by rw [e],by rw [e],by rw [e]⟩
 ·
  have e:JC o l r=(o,(JZ o l r).1,0):=by unfold JC;rw [if_neg (by omega),if_neg hv]
  rw [e];exact ⟨h,rfl,rfl,rfl⟩
theorem JeR {p:We} {now:Int} (h:KL p=0) (h1:0≤now) (h2:now≤1000000000):KL (Wa p now).1=0:=by
 have hp:=(ZD p).1 h
 have ha:KO p now=0:=(JcY p now).2 ⟨hp,h1,h2⟩
 unfold Wa
 rw [if_neg (by omega)]
 simp only
 rw [ZD]
 unfold Vk at hp ⊢
 unfold K3
 simp only
 (repeat' split) <;> omega
theorem i_see {s:Kx} {t:JI} (h:ZM s t) {l:JS} (h0:0≤l.to_) (h1:l.to_<t.town.owners.length):ZM s (Z9 t l):=by
 refine ⟨h.clerk,h.net,h.now,fun i o ho=>?_,fun i p hp=>?_⟩
 ·
  rcases Jfi ho with ⟨rfl,rfl,_⟩ | ⟨_,ho⟩
  ·
   obtain ⟨q1,q2,q3⟩:=h.own _ _ (JeQ (k:=l.to_) (by omega))
   obtain ⟨k1,k2,k3,_⟩:=JmM (l:=l.heads) (r:=l.reply) q1
   exact ⟨k1,by rw [k2];exact q2,by rw [k3];exact q3⟩
  · exact h.own i o ho
 ·
  unfold Z9 at hp
  simp only at hp
  split at hp
  ·
   rcases Jfi hp with ⟨rfl,rfl,hl⟩ | ⟨_,hp⟩
   · exact JeR (h.poll _ _ (JkD hl)) h.clerk.now.1 h.clerk.now.2
   · exact h.poll i p hp
  · exact h.poll i p hp
theorem JoG {s:Kx} {t:JI} (h:ZM s t) (l:JS):ZM s (Qj t l):=by
 unfold Qj
 split
 · exact h
 · exact JoF h _
theorem JoH {s:Kx} {t:JI} (h:ZM s t) {l:JS} (h1:l.to_<t.town.owners.length):ZM s (Yc t l):=by
 unfold Yc
 split
 · exact JoG h l
 · exact i_see h (by omega) h1
theorem Jek {s:Kx}:∀ (l:List JS) {t:JI},ZM s t→(∀ x∈l,x.to_<t.town.owners.length)→ZM s (Zf t l)
 | [],_,h,_=>h
 | x::l,t,h,hl=>Jek l (JoH h (hl x (by simp))) (fun y hy=>by rw [(Jjj t x).own];exact hl y (by simp [hy]))
theorem i_sent {s:Kx} {t:JI} (h:ZM s t) {k:Int} (hk:(KP (Qx t k) t.town.clerk.now).2=0):ZM s (JaU t k):=by
 unfold JaU
 refine JoF (t:=⟨⟨t.town.clerk,t.town.owners,t.town.polls.set k.toNat (KP (Qx t k) t.town.clerk.now).1,t.town.net⟩,t.reach,t.fates,t.events⟩) ⟨h.clerk,h.net,h.now,h.own,fun i p hp=>?_⟩ _
 rcases Jfi hp with ⟨rfl,rfl,_⟩ | ⟨_,hp⟩
 · have:=JeL hk;omega
 · exact h.poll i p hp
theorem i_ask {s:Kx} {t:JI} (h:ZM s t) (k:Int):ZM s (Zu t k):=by
 unfold Zu
 split
 · exact h
 rename_i h1
 have h2:=i_sent h (Hd.1 h1)
 split
 · exact ⟨h2.clerk,h2.net,h2.now,h2.own,h2.poll⟩
 · exact h2
theorem JkE {s:Kx} {t:JI} (h:ZM s t):∀ n,ZM s (Jb2 t n)
 | 0=>h
 | n+1=>by rw [← JaJ];exact i_ask (JkE h n) _
theorem i_tick {s:Kx} {t:JI} (h:ZM s t) (hw:WV t):ZM s (WI t):=by
 unfold WI
 split
 · exact h
 ·
  rename_i h1
  obtain ⟨t0,tk⟩:=JdE h.clerk
  have hn:Zo t.town.clerk=false∧(KV t.town.clerk).1.now=t.town.clerk.now+1:=by
   rcases JcC h.clerk with q | q
   · exact absurd q.1 h1
   · exact q
  have hne:¬ t.town.net.now=1000000000:=by
   rw [h.now]
   have:=hn.1;unfold Zo at this
   simp only [HC,decide_eq_false_iff_not] at this
   exact this.2
  obtain ⟨n1,n2⟩:=JcH h.net hne
  have hT:ZM s (Vl t):=⟨tk.ok,n1,by show (Ks t.town.net).1.now=(KV t.town.clerk).1.now;rw [n2,hn.2,h.now],h.own,h.poll⟩
  exact JkE (Jek _ hT (fun x hx=>hw x (Jf3 hx))) _
theorem i_do {s:Kx} {t:JI} (h:ZM s t) (hw:WV t) (d:K4):ZM s (Y3 t d):=by
 unfold Y3
 split
 · exact i_want h d
 split
 · exact ⟨h.clerk,h.net,h.now,h.own,h.poll⟩
 split
 ·
  unfold Jf2
  split
  · exact h
  ·
   refine ⟨h.clerk,?_,?_,h.own,h.poll⟩ <;> (simp only;split)
   · rename_i hk;exact (VV hk).1
   · exact h.net
   · rename_i hk;rw [(VV hk).2];exact h.now
   · exact h.now
 split
 · exact i_tick h hw
 · exact h
theorem i_dos {s:Kx}:∀ (l:List K4) {t:JI},ZM s t→WV t→ZM s (Jbi t l)
 | [],_,h,_=>h
 | d::l,_,h,hw=>i_dos l (i_do h hw d) (w_do hw d)
theorem Jb3 {m b e:Int} (h:(J6 m b e).2=0):Zn (J6 m b e).1∧(J6 m b e).1.now=0∧(J6 m b e).1.books=[[]]∧(J6 m b e).1.queue.wait=[]∧(J6 m b e).1.heads.length=1:=by
 unfold J6 at h ⊢
 split at h
 · cases h
 ·
  rename_i h1
  rw [if_neg h1]
  simp only [not_or,Hx] at h1
  obtain ⟨a1,a2,a3⟩:=h1
  have b1:=VQ.1 a1;have b2:=VQ.1 a2;have b3:=VQ.1 a3
  have hT:ZO []:=⟨by simp,by simp,by simp⟩
  have hroot:=JfO (q:=[]) hT (by simp) (by simp)
  have hb:=JeH (K7 [] []) []
  have hc:JK ⟨0,(JY [] []).1,0,0⟩=0:=by
   rw [hroot];unfold JK;simp only
   rw [if_neg (by omega),if_neg (by simp)]
  have hf:KZ (JY [] []).1 0=(⟨0,(JY [] []).1,0,0⟩,0):=by unfold KZ;rw [if_neg (by omega)]
  rw [hf]
  refine ⟨⟨Qf.2 ⟨by simp only;omega,by simp only;omega,by simp;omega,by simp⟩,b2,b3,⟨by simp,by simp⟩,⟨by simp,by simp,?_,?_⟩,rfl,rfl,by simp [W8],?_,?_⟩,rfl,rfl,rfl,rfl⟩
  · intro x hx;simp at hx;rw [hx];exact hc
  · intro k x y hx hy;have:=(Hq.1 hy).1;simp at this
  ·
   intro k x hx
   have hk:k=0:=by have:=(Hq.1 hx).1;simp at this;exact this
   subst hk
   simp at hx
   subst hx
   exact ⟨by rw [hroot],by simp⟩
  · simp [JaT,Wz,Qg,Q7,nn,dd]
theorem JlC:∀ (l p:Bs),nmE p l=0→(∀ n∈l,KS n=true)∧l.Nodup∧∀ n∈l,n ∉ p
 | [],_,_=>by simp
 | n::l,p,h=>by
  unfold nmE at h
  split at h
  · cases h
  ·
   rename_i h1
   simp only [not_or,Hx] at h1
   obtain ⟨q1,q2,q3⟩:=JlC l (p++[n]) h
   have hn:n ∉ p:=fun hp=>h1.2 (Hu.2 ⟨n,hp,by simp⟩)
   refine ⟨fun x hx=>?_,List.nodup_cons.2 ⟨fun hx=>(q3 n hx) (by simp),q2⟩,fun x hx=>?_⟩
   ·
    rcases HA.1 hx with rfl | hx
    · exact h1.1
    · exact q1 x hx
   ·
    rcases HA.1 hx with rfl | hx
    · exact hn
    · exact fun hp=>q3 x hx (by simp [hp])
theorem Jh4 {s:Kx} {h:JU} {i:Nat} {o:Qn} (hh:JK h=0) (hn:nmE [] s.names=0) (ho:(Z1 s h)[i]? = some o):Kg o=0∧s.names[i]? = some o.name∧s.keys[i]? = some o.key∧o.head=h∧o.wanted=[]∧o.had=0:=by
 unfold Z1 at ho
 rw [List.getElem?_map,Option.map_eq_some_iff] at ho
 obtain ⟨⟨n,k⟩,hz,rfl⟩:=ho
 rw [List.getElem?_zip_eq_some] at hz
 obtain ⟨z1,z2⟩:=hz
 have hp:=(JlC _ _ hn).1 n (Hr z1)
 have hc:Kg ⟨n,k,h,[],0⟩=0:=K9.2 ⟨hp,hh,by simp,by simp,by simp,by simp⟩
 have e:Kk n k h=(⟨n,k,h,[],0⟩,0):=by unfold Kk;rw [if_neg (by omega)]
 simp only [e]
 exact ⟨hc,z1,z2,by simp⟩
theorem Jb4 {s:Kx} (h:QM s=0):ZM s (QD s)∧WV (QD s)∧(QD s).town.owners.length=s.names.length∧(QD s).town.polls.length=s.names.length:=by
 obtain ⟨b1,b2,b3,b4,b5,b6,b7⟩:=Jan h
 obtain ⟨c1,c2,c3,c4,c5⟩:=Jb3 b4
 have hf:JK (W0 (J6 s.most s.batch s.every).1.heads)=0:=c1.chain.ok _ (Hr c1.chain.first)
 refine ⟨⟨c1,?_,?_,?_,?_⟩,?_,JdI h _,?_⟩
 · show Qh ⟨0,[]⟩=0;exact JkC (by simp) (by simp) (by simp) (by simp)
 · show (0:Int)=(J6 s.most s.batch s.every).1.now;exact c2.symm
 ·
  intro i o ho
  obtain ⟨q1,q2,q3,_⟩:=Jh4 hf b3 ho
  exact ⟨q1,q2,q3⟩
 ·
  intro i p hp
  have:=Hr hp
  have:=(List.mem_replicate.1 this).2
  rw [this]
  obtain ⟨q1,q2⟩:=Jf0 b5
  rw [q2];exact JbC q1
 · intro l hl;simp [QD] at hl
 · show (HE _ _).length=_;rw [List.length_replicate];exact JdI h _
theorem Y4 {s:Kx} {l:List K4} (h:(Jt s l).2.2=0):Kh (Jt s l).1.clerk=0∧Qh (Jt s l).1.net=0∧(Jt s l).1.net.now=(Jt s l).1.clerk.now∧(Jt s l).1.owners.length=s.names.length∧(Jt s l).1.polls.length=s.names.length∧s.keys.length=s.names.length ∧
  (∀ (i:Nat) o,(Jt s l).1.owners[i]? = some o→Kg o=0∧s.names[i]? = some o.name∧s.keys[i]? = some o.key)∧∀ (i:Nat) p,(Jt s l).1.polls[i]? = some p→KL p=0:=by
 obtain ⟨h1,h2,h3⟩:=Jh3 h
 obtain ⟨b1,b2,b3,b4⟩:=Jb4 h1
 have hi:=i_dos l b1 b2
 have hb:=Jan h1
 have hg:=JoD l (t:=QD s) (by rw [b3];exact hb.1)
 rw [h3]
 exact ⟨Yl.2 hi.clerk,hi.net,hi.now,hg.own.trans b3,hg.polls.trans b4,hb.2.1,hi.own,hi.poll⟩
abbrev Kc (x:JI) (a0:Ba) (c0:Nat) (a1:Ba) (c1:Nat) (a2:Ba) (c2:Nat) (a3:Ba) (c3:Nat) (a4:Ba) (c4:Nat) (a5:Ba) (c5:Nat) (a6:Ba) (c6:Nat) (a7:Ba) (c7:Nat):Bv:=[I x.town.clerk.queue.most,Sl a0 x.town.clerk.queue.wait.length c0,I x.town.clerk.batch,I x.town.clerk.every,I x.town.clerk.now,Sl a1 x.town.clerk.heads.length c1,Sl a2 x.town.clerk.books.length c2,Sl a3 x.town.owners.length c3,Sl a4 x.town.polls.length c4,I x.town.net.now,Sl a5 x.town.net.way.length c5,I x.reach,Sl a6 x.fates.length c6,Sl a7 x.events.length c7]
abbrev vTownT (x:JI) (a0:Ba) (c0:Nat) (a1:Ba) (c1:Nat) (a2:Ba) (c2:Nat) (a3:Ba) (c3:Nat) (a4:Ba) (c4:Nat) (a5:Ba) (c5:Nat) (a6:Ba) (c6:Nat) (a7:Ba) (c7:Nat):Value:=.agg #[I x.town.clerk.queue.most,Sl a0 x.town.clerk.queue.wait.length c0,I x.town.clerk.batch,I x.town.clerk.every,I x.town.clerk.now,Sl a1 x.town.clerk.heads.length c1,Sl a2 x.town.clerk.books.length c2,Sl a3 x.town.owners.length c3,Sl a4 x.town.polls.length c4,I x.town.net.now,Sl a5 x.town.net.way.length c5,I x.reach,Sl a6 x.fates.length c6,Sl a7 x.events.length c7]
theorem Jb5 (G:J4) (b:Nat) (t:JI) (a_1:Ba) (c_1:Nat) (a_5:Ba) (c_5:Nat) (a_6:Ba) (c_6:Nat) (a_7:Ba) (c_7:Nat) (a_8:Ba) (c_8:Nat) (a_10:Ba) (c_10:Nat) (a_12:Ba) (c_12:Nat) (a_13:Ba) (c_13:Nat) (r_7:Bg) (r_8:Bg) (r_12:Bg) (r_13:Bg) (h_0:rI t.town.clerk.queue.most) (h_1:RS Q6 G a_1 c_1 t.town.clerk.queue.wait) (h_2:rI t.town.clerk.batch) (h_3:rI t.town.clerk.every) (h_4:rI t.town.clerk.now) (h_5:RS KN G a_5 c_5 t.town.clerk.heads) (h_6:RS Qw G a_6 c_6 t.town.clerk.books) (h_7:JX Q9 G a_7 c_7 t.town.owners r_7) (h_8:JX WJ G a_8 c_8 t.town.polls r_8) (h_9:rI t.town.net.now) (h_10:RS Kl G a_10 c_10 t.town.net.way) (h_11:rI t.reach) (h_12:JX Vx G a_12 c_12 t.fates r_12) (h_13:JX Wk G a_13 c_13 t.events r_13) (k:Int) :Jcw 62 #[Pt b 0,I k] G [[Sg b 0 [I t.town.clerk.queue.most,Sl a_1 t.town.clerk.queue.wait.length c_1,I t.town.clerk.batch,I t.town.clerk.every,I t.town.clerk.now,Sl a_5 t.town.clerk.heads.length c_5,Sl a_6 t.town.clerk.books.length c_6,Sl a_7 t.town.owners.length c_7,Sl a_8 t.town.polls.length c_8,I t.town.net.now,Sl a_10 t.town.net.way.length c_10,I t.reach,Sl a_12 t.fates.length c_12,Sl a_13 t.events.length c_13]],r_7,r_8,r_12,r_13] (fun u G' L'=>∃ (a_z1:Ba) (c_z1:Nat) (a_z5:Ba) (c_z5:Nat) (a_z6:Ba) (c_z6:Nat) (a_z7:Ba) (c_z7:Nat) (a_z8:Ba) (c_z8:Nat) (a_z10:Ba) (c_z10:Nat) (a_z12:Ba) (c_z12:Nat) (a_z13:Ba) (c_z13:Nat) (r_z7:Bg) (r_z8:Bg) (r_z12:Bg) (r_z13:Bg),u=Bo (Zg t k)∧(rI t.town.clerk.queue.most)∧(RS Q6 G' a_z1 c_z1 t.town.clerk.queue.wait)∧(rI t.town.clerk.batch)∧(rI t.town.clerk.every)∧(rI t.town.clerk.now)∧(RS KN G' a_z5 c_z5 t.town.clerk.heads)∧(RS Qw G' a_z6 c_z6 t.town.clerk.books)∧(JX Q9 G' a_z7 c_z7 t.town.owners r_z7)∧(JX WJ G' a_z8 c_z8 t.town.polls r_z8)∧(rI t.town.net.now)∧(RS Kl G' a_z10 c_z10 t.town.net.way)∧(rI t.reach)∧(JX Vx G' a_z12 c_z12 t.fates r_z12)∧(JX Wk G' a_z13 c_z13 t.events r_z13)∧L'=[[Sg b 0 [I t.town.clerk.queue.most,Sl a_z1 t.town.clerk.queue.wait.length c_z1,I t.town.clerk.batch,I t.town.clerk.every,I t.town.clerk.now,Sl a_z5 t.town.clerk.heads.length c_z5,Sl a_z6 t.town.clerk.books.length c_z6,Sl a_z7 t.town.owners.length c_z7,Sl a_z8 t.town.polls.length c_z8,I t.town.net.now,Sl a_z10 t.town.net.way.length c_z10,I t.reach,Sl a_z12 t.fates.length c_z12,Sl a_z13 t.events.length c_z13]],r_z7,r_z8,r_z12,r_z13]):=by
 intro Lr
 refine JQ Tryz.func62 17 [(0,Pt b 0),(1,I k)] rfl (fun w0 G0=>?_)
 show TC _ _ _ _ _ ([Sg b 0 (Kc t a_1 c_1 a_5 c_5 a_6 c_6 a_7 c_7 a_8 c_8 a_10 c_10 a_12 c_12 a_13 c_13)]::r_7::r_8::r_12::r_13::Lr)
 refine Jg [0] [] (Jf (Jd (Jb [0,0,0] [(7,Bo (decide (k ≥ 0)))] (Kr (decide (k ≥ 0)) [7] [0,0,0,0,0,2,0,0,0] [1,1,1,1,1,1,1,1,0] (fun bb=>[(16,Bo (bb && (decide (k<(t.town.owners.length:Int)))))]) (Jb [0] [(4,Bo ((decide (k ≥ 0)) && (decide (k<(t.town.owners.length:Int)))))] (Je (Jc (Jn (Jk 4 (Jk 4 (Jk 4 (Jk 4 (Jk 4 ?_)))))))))))))
 have hf1:(t,Zg t k)=(t,(decide (k ≥ 0)) && (decide (k<(t.town.owners.length:Int)))):=by
  rfl
 refine Jo [0] [Bo ((decide (k ≥ 0)) && (decide (k<(t.town.owners.length:Int))))] (KH (Lr:=Lr) [[Sg b 0 (Kc t a_1 c_1 a_5 c_5 a_6 c_6 a_7 c_7 a_8 c_8 a_10 c_10 a_12 c_12 a_13 c_13)],r_7,r_8,r_12,r_13] (Jh _) ?_)
 try rw [hf1];try dsimp only
 exact ⟨a_1,c_1,a_5,c_5,a_6,c_6,a_7,c_7,a_8,c_8,a_10,c_10,a_12,c_12,a_13,c_13,r_7,r_8,r_12,r_13,rfl,h_0,h_1,h_2,h_3,h_4,h_5,h_6,h_7,h_8,h_9,h_10,h_11,h_12,h_13,rfl⟩
theorem Jel (G:J4) (b:Nat) (t:JI) (a_1:Ba) (c_1:Nat) (a_5:Ba) (c_5:Nat) (a_6:Ba) (c_6:Nat) (a_7:Ba) (c_7:Nat) (a_8:Ba) (c_8:Nat) (a_10:Ba) (c_10:Nat) (a_12:Ba) (c_12:Nat) (a_13:Ba) (c_13:Nat) (r_7:Bg) (r_8:Bg) (r_12:Bg) (r_13:Bg) (h_0:rI t.town.clerk.queue.most) (h_1:RS Q6 G a_1 c_1 t.town.clerk.queue.wait) (h_2:rI t.town.clerk.batch) (h_3:rI t.town.clerk.every) (h_4:rI t.town.clerk.now) (h_5:RS KN G a_5 c_5 t.town.clerk.heads) (h_6:RS Qw G a_6 c_6 t.town.clerk.books) (h_7:JX Q9 G a_7 c_7 t.town.owners r_7) (h_8:JX WJ G a_8 c_8 t.town.polls r_8) (h_9:rI t.town.net.now) (h_10:RS Kl G a_10 c_10 t.town.net.way) (h_11:rI t.reach) (h_12:JX Vx G a_12 c_12 t.fates r_12) (h_13:JX Wk G a_13 c_13 t.events r_13) (kind:Int) (hw_kind:rI kind) (who:Int) (hw_who:rI who) (n:Int) (hw_n:rI n) (at_:Int) (hw_at_:rI at_) (hev:t.events.length≤1000000):Jcw 104 #[Pt b 0,I kind,I who,I n,I at_] G [[Sg b 0 [I t.town.clerk.queue.most,Sl a_1 t.town.clerk.queue.wait.length c_1,I t.town.clerk.batch,I t.town.clerk.every,I t.town.clerk.now,Sl a_5 t.town.clerk.heads.length c_5,Sl a_6 t.town.clerk.books.length c_6,Sl a_7 t.town.owners.length c_7,Sl a_8 t.town.polls.length c_8,I t.town.net.now,Sl a_10 t.town.net.way.length c_10,I t.reach,Sl a_12 t.fates.length c_12,Sl a_13 t.events.length c_13]],r_7,r_8,r_12,r_13] (fun u G' L'=>∃ (a_z1:Ba) (c_z1:Nat) (a_z5:Ba) (c_z5:Nat) (a_z6:Ba) (c_z6:Nat) (a_z7:Ba) (c_z7:Nat) (a_z8:Ba) (c_z8:Nat) (a_z10:Ba) (c_z10:Nat) (a_z12:Ba) (c_z12:Nat) (a_z13:Ba) (c_z13:Nat) (r_z7:Bg) (r_z8:Bg) (r_z12:Bg) (r_z13:Bg),u=.tuple #[]∧(rI ((Q8 t kind who n at_).town.clerk.queue.most))∧(RS Q6 G' a_z1 c_z1 ((Q8 t kind who n at_).town.clerk.queue.wait))∧(rI ((Q8 t kind who n at_).town.clerk.batch))∧(rI ((Q8 t kind who n at_).town.clerk.every))∧(rI ((Q8 t kind who n at_).town.clerk.now))∧(RS KN G' a_z5 c_z5 ((Q8 t kind who n at_).town.clerk.heads))∧(RS Qw G' a_z6 c_z6 ((Q8 t kind who n at_).town.clerk.books))∧(JX Q9 G' a_z7 c_z7 ((Q8 t kind who n at_).town.owners) r_z7)∧(JX WJ G' a_z8 c_z8 ((Q8 t kind who n at_).town.polls) r_z8)∧(rI ((Q8 t kind who n at_).town.net.now))∧(RS Kl G' a_z10 c_z10 ((Q8 t kind who n at_).town.net.way))∧(rI ((Q8 t kind who n at_).reach))∧(JX Vx G' a_z12 c_z12 ((Q8 t kind who n at_).fates) r_z12)∧(JX Wk G' a_z13 c_z13 ((Q8 t kind who n at_).events) r_z13)∧L'=[[Sg b 0 [I ((Q8 t kind who n at_).town.clerk.queue.most),Sl a_z1 (((Q8 t kind who n at_).town.clerk.queue.wait).length) c_z1,I ((Q8 t kind who n at_).town.clerk.batch),I ((Q8 t kind who n at_).town.clerk.every),I ((Q8 t kind who n at_).town.clerk.now),Sl a_z5 (((Q8 t kind who n at_).town.clerk.heads).length) c_z5,Sl a_z6 (((Q8 t kind who n at_).town.clerk.books).length) c_z6,Sl a_z7 (((Q8 t kind who n at_).town.owners).length) c_z7,Sl a_z8 (((Q8 t kind who n at_).town.polls).length) c_z8,I ((Q8 t kind who n at_).town.net.now),Sl a_z10 (((Q8 t kind who n at_).town.net.way).length) c_z10,I ((Q8 t kind who n at_).reach),Sl a_z12 (((Q8 t kind who n at_).fates).length) c_z12,Sl a_z13 (((Q8 t kind who n at_).events).length) c_z13]],r_z7,r_z8,r_z12,r_z13]):=by
 intro Lr
 refine JQ Tryz.func104 24 [(0,Pt b 0),(1,I kind),(2,I who),(3,I n),(4,I at_)] rfl (fun w0 G0=>?_)
 show TC _ _ _ _ _ ([Sg b 0 (Kc t a_1 c_1 a_5 c_5 a_6 c_6 a_7 c_7 a_8 c_8 a_10 c_10 a_12 c_12 a_13 c_13)]::r_7::r_8::r_12::r_13::Lr)
 refine Jd (Jb [0,0,0,0,2,0,0,0,0,0] [(10,Pt b 0),(14,Sl a_13 t.events.length c_13),(19,.agg #[I kind,I who,I n,I at_])] (Kq 20 1 #[I kind,I who,I n,I at_] 74 (fun b1=>Qm (b:=b1) (cs:=[I kind,I who,I n,I at_]) 21 74 5 0 (E:=Wk) (⟨kind,who,n,at_⟩:Yg) h_13 ⟨rfl,hw_kind,hw_who,hw_n,hw_at_⟩ (by (try simp only [Wk,Hc,He,Hh]);omega) (by (try simp only [Wk,Hc,He,Hh]);omega) (fun a1 c1 r1 hr1=>JT [0,0,5] [] ([Sg b1 0 [I kind,I who,I n,I at_]]::[Sg b 0 (Kc (⟨t.town,t.reach,t.fates,(t.events++[(⟨kind,who,n,at_⟩:Yg)])⟩:JI) a_1 c_1 a_5 c_5 a_6 c_6 a_7 c_7 a_8 c_8 a_10 c_10 a_12 c_12 a1 c1)]::r_7::r_8::r_12::r1::Lr) (Je (Jk 5 (Jk 5 (Jk 5 (Jk 5 (Jk 5 ?_))))))))))
 have hf1:Q8 t kind who n at_=(⟨t.town,t.reach,t.fates,t.events++[(⟨kind,who,n,at_⟩:Yg)]⟩:JI):=by
  rfl
 refine ZN [] [] (KH (Lr:=Lr) [[Sg b 0 (Kc (⟨t.town,t.reach,t.fates,(t.events++[(⟨kind,who,n,at_⟩:Yg)])⟩:JI) a_1 c_1 a_5 c_5 a_6 c_6 a_7 c_7 a_8 c_8 a_10 c_10 a_12 c_12 a1 c1)],r_7,r_8,r_12,r1] (Jh _) ?_)
 rw [hf1];try dsimp only
 exact ⟨a_1,c_1,a_5,c_5,a_6,c_6,a_7,c_7,a_8,c_8,a_10,c_10,a_12,c_12,a1,c1,r_7,r_8,r_12,r1,rfl,h_0,h_1,h_2,h_3,h_4,h_5,h_6,h_7,h_8,h_9,h_10,h_11,h_12,hr1,rfl⟩
set_option maxRecDepth 20000 in
abbrev Wd (l:JS) (t:JI):=Ky t.town.net l ([1])
abbrev Jf4 (t:JI):=(⟨t.town,t.reach,(t.fates.drop 1),t.events⟩:JI)
theorem Jhe (G:J4) (b:Nat) (t:JI) (a_1:Ba) (c_1:Nat) (a_5:Ba) (c_5:Nat) (a_6:Ba) (c_6:Nat) (a_7:Ba) (c_7:Nat) (a_8:Ba) (c_8:Nat) (a_10:Ba) (c_10:Nat) (a_12:Ba) (c_12:Nat) (a_13:Ba) (c_13:Nat) (r_7:Bg) (r_8:Bg) (r_12:Bg) (r_13:Bg) (h_0:rI t.town.clerk.queue.most) (h_1:RS Q6 G a_1 c_1 t.town.clerk.queue.wait) (h_2:rI t.town.clerk.batch) (h_3:rI t.town.clerk.every) (h_4:rI t.town.clerk.now) (h_5:RS KN G a_5 c_5 t.town.clerk.heads) (h_6:RS Qw G a_6 c_6 t.town.clerk.books) (h_7:JX Q9 G a_7 c_7 t.town.owners r_7) (h_8:JX WJ G a_8 c_8 t.town.polls r_8) (h_9:rI t.town.net.now) (h_10:RS Kl G a_10 c_10 t.town.net.way) (h_11:rI t.reach) (h_12:JX Vx G a_12 c_12 t.fates r_12) (h_13:JX Wk G a_13 c_13 t.events r_13) (vs_l:Bv) (l:JS) (h_l:Kl.R G vs_l l) :Jcw 168 #[Pt b 0,.agg vs_l.toArray] G [[Sg b 0 [I t.town.clerk.queue.most,Sl a_1 t.town.clerk.queue.wait.length c_1,I t.town.clerk.batch,I t.town.clerk.every,I t.town.clerk.now,Sl a_5 t.town.clerk.heads.length c_5,Sl a_6 t.town.clerk.books.length c_6,Sl a_7 t.town.owners.length c_7,Sl a_8 t.town.polls.length c_8,I t.town.net.now,Sl a_10 t.town.net.way.length c_10,I t.reach,Sl a_12 t.fates.length c_12,Sl a_13 t.events.length c_13]],r_7,r_8,r_12,r_13] (fun u G' L'=>∃ (a_z1:Ba) (c_z1:Nat) (a_z5:Ba) (c_z5:Nat) (a_z6:Ba) (c_z6:Nat) (a_z7:Ba) (c_z7:Nat) (a_z8:Ba) (c_z8:Nat) (a_z10:Ba) (c_z10:Nat) (a_z12:Ba) (c_z12:Nat) (a_z13:Ba) (c_z13:Nat) (r_z7:Bg) (r_z8:Bg) (r_z12:Bg) (r_z13:Bg),u=.tuple #[]∧(rI ((Wm t l).town.clerk.queue.most))∧(RS Q6 G' a_z1 c_z1 ((Wm t l).town.clerk.queue.wait))∧(rI ((Wm t l).town.clerk.batch))∧(rI ((Wm t l).town.clerk.every))∧(rI ((Wm t l).town.clerk.now))∧(RS KN G' a_z5 c_z5 ((Wm t l).town.clerk.heads))∧(RS Qw G' a_z6 c_z6 ((Wm t l).town.clerk.books))∧(JX Q9 G' a_z7 c_z7 ((Wm t l).town.owners) r_z7)∧(JX WJ G' a_z8 c_z8 ((Wm t l).town.polls) r_z8)∧(rI ((Wm t l).town.net.now))∧(RS Kl G' a_z10 c_z10 ((Wm t l).town.net.way))∧(rI ((Wm t l).reach))∧(JX Vx G' a_z12 c_z12 ((Wm t l).fates) r_z12)∧(JX Wk G' a_z13 c_z13 ((Wm t l).events) r_z13)∧L'=[[Sg b 0 [I ((Wm t l).town.clerk.queue.most),Sl a_z1 (((Wm t l).town.clerk.queue.wait).length) c_z1,I ((Wm t l).town.clerk.batch),I ((Wm t l).town.clerk.every),I ((Wm t l).town.clerk.now),Sl a_z5 (((Wm t l).town.clerk.heads).length) c_z5,Sl a_z6 (((Wm t l).town.clerk.books).length) c_z6,Sl a_z7 (((Wm t l).town.owners).length) c_z7,Sl a_z8 (((Wm t l).town.polls).length) c_z8,I ((Wm t l).town.net.now),Sl a_z10 (((Wm t l).town.net.way).length) c_z10,I ((Wm t l).reach),Sl a_z12 (((Wm t l).fates).length) c_z12,Sl a_z13 (((Wm t l).events).length) c_z13]],r_z7,r_z8,r_z12,r_z13]):=by
 obtain ⟨a1,c1,a2,c2,a3,c3,rfl,w1,w2,w3,w4,hs1,w5,w6,w7,w8,w9,hs2,hs3⟩:=h_l
 intro Lr
 refine JQ Tryz.func168 46 [(0,Pt b 0),(1,(QZ l a1 c1 a2 c2 a3 c3))] rfl (fun w0 G0=>?_)
 show TC _ _ _ _ _ ([Sg b 0 (Kc t a_1 c_1 a_5 c_5 a_6 c_6 a_7 c_7 a_8 c_8 a_10 c_10 a_12 c_12 a_13 c_13)]::r_7::r_8::r_12::r_13::Lr)
 refine Jf (Jd (Jv 3 #[I l.to_,I l.from_,I l.since,I l.due,Sl a1 l.heads.length c1,I l.reply.head.epoch,U l.reply.head.root,U l.reply.head.prev,I l.reply.head.at_,Sr l.reply.proof.name,Sl a2 l.reply.proof.entries.length c2,Sl a3 l.reply.proof.sides.length c3] 51 (fun b1=>Je (Jc (Jf (Jd (Kq 7 1 #[I 1] 3 (fun b2=>Jb [0] [(4,Sl (At b2 0) 1 1)] (Je (Jc (Jf (Jg [0,0,0,6,0,0] [(13,Bo (decide ((t.fates.length:Int) > 0)))] (Jm (decide ((t.fates.length:Int) > 0)) (fun h1=>?_) (fun h1=>?_))))))))))))))
 obtain ⟨x1,hx1⟩:=QQ (l:=t.fates) (k:=0) (by omega)
 obtain ⟨b3,o1,_,_,⟨a4,c4,rfl,hs4⟩,ha1,hre1,hc1⟩:=JX.ix h_12 hx1
 obtain ⟨r1,hr1,hsh1⟩:=JX.dropX h_12 1 (by omega)
 obtain ⟨a5,ea1⟩:∃ z_:Ba,z_=(if c_12=1 then a_12 else (a_12).map (·.add (1*1))):=⟨_,rfl⟩
 have hr1:JX Vx G a5 (c_12-1) (t.fates.drop 1) r1:=by rw [ea1];exact hr1
 refine Kv [15] (Ws [(0,Pt b 0),(1,Pt b 0),(2,Pt b 0),(3,Pt b 12),(4,Sl a_12 t.fates.length c_12),(5,Pt b3 (o1+0*1)),(6,Sl a4 x1.length c4),(7,Pt b 0),(8,Pt b 0),(9,Pt b 12),(10,Sl a_12 t.fates.length c_12),(11,Sl a5 ((t.fates.drop 1).length) (c_12-1)),(12,Sl a4 x1.length c4),(13,Pt b 0),(14,Pt b 12)] (JF [] [(0,0),(1,0),(2,0),(3,0),(4,6),(7,0),(8,0),(9,0),(10,6),(12,0),(13,0),(14,0)] [5,6,11] [15] (Kf ?_ (Kf ?_ (Kf ?_ KY))) (Kf ?_ KY)))
 refine Jr 5 19 (Pt b3 (o1+0*1)) [(18,Sl a_12 t.fates.length c_12)] (fun X=>?_)
 exact Qq (b:=b3) (off:=o1) (len:=t.fates.length) (cap:=c_12) (ik:=.i64) 19 39 1 0 ha1 Kd Jp
 refine Jr 6 20 (Sl a4 x1.length c4) [(19,Pt b3 (o1+0*1))] (fun X=>?_)
 exact W2 (off:=o1) (p:=0*1) (cs:=[Sl a4 x1.length c4]) 20 39 5 0 (Sl a4 x1.length c4) hre1 hc1 Jp
 refine Jr 11 25 (Sl a5 ((t.fates.drop 1).length) (c_12-1)) [(24,Sl a_12 t.fates.length c_12)] (fun X=>?_)
 exact Wx (a:=a_12) (len:=t.fates.length) (cap:=c_12) 25 1 (some (I 1)) none 1 t.fates.length (.inr ⟨_,rfl⟩) (.inl ⟨rfl,rfl⟩) Kd ea1 rfl (by rw [List.length_drop]) (by have q_:=h_12.lec;omega) Jp
 refine Jz 15 [(25,Sl a5 ((t.fates.drop 1).length) (c_12-1)),(27,Pt b 12)] (fun X=>?_)
 refine KA 2 ([Sg b2 0 [I 1]]::[Sg b1 0 (Kw l a1 c1 a2 c2 a3 c3)]::[Sg b 0 (Kc (Jf4 t) a_1 c_1 a_5 c_5 a_6 c_6 a_7 c_7 a_8 c_8 a_10 c_10 a5 (c_12-1) a_13 c_13)]::r_7::r_8::r_12::r_13::Lr) (J5 [] (Ko [0,1,2,3,4,5,6,7,8,9,10,11,12,13,14] [] [] [(0,Pt b 0),(3,Pt b1 0),(4,Sl a4 x1.length c4)] (Ha _) (tq_shr 5 hsh1 (Jc ?_))))
 refine Ya (σ:=Nat×Ba×Nat×J4) (fun q_=>(J4.le G q_.2.2.2)∧(rI (((Ky t.town.net l x1).1).now))∧(RS Kl q_.2.2.2 q_.2.1 q_.2.2.1 (((Ky t.town.net l x1).1).way))) (fun q_=>[(0,Pt b 0),(5,Pt q_.1 0),(6,I ((Ky t.town.net l x1).2))]) (fun q_=>q_.2.2.2) (fun q_=>([Sg q_.1 0 [I (((Ky t.town.net l x1).1).now),Sl q_.2.1 ((((Ky t.town.net l x1).1).way).length) q_.2.2.1]]::[Sg b2 0 [I 1]]::[Sg b1 0 (Kw l a1 c1 a2 c2 a3 c3)]::[Sg b 0 (Kc (Jf4 t) a_1 c_1 a_5 c_5 a_6 c_6 a_7 c_7 a_8 c_8 a_10 c_10 a5 (c_12-1) a_13 c_13)]::r_7::r_8::r1::r_13::Lr)) ?_ (fun q_ hs=>?_)
 refine Kv [7,11,12] (Ws [(0,Pt b 0),(1,Pt b 0),(2,Pt b 0),(3,Pt b 9),(4,.agg #[I t.town.net.now,Sl a_10 t.town.net.way.length c_10]),(5,(QZ l a1 c1 a2 c2 a3 c3)),(6,Sl a4 x1.length c4)] (JF [] [(0,0),(1,0),(2,0),(3,0),(4,6),(5,4),(6,0)] [] [7,11] (Ha _) (Kf ?_ (Kf ?_ KY))))
 refine Jz 7 [(33,.agg #[I t.town.net.now,Sl a_10 t.town.net.way.length c_10]),(34,(QZ l a1 c1 a2 c2 a3 c3)),(35,Sl a4 x1.length c4)] (fun X=>?_)
 refine JM 36 (YV G [I t.town.net.now,Sl a_10 t.town.net.way.length c_10] t.town.net (⟨a_10,c_10,rfl,h_9,h_10⟩) (Kw l a1 c1 a2 c2 a3 c3) l (⟨a1,c1,a2,c2,a3,c3,rfl,w1,w2,w3,w4,hs1,w5,w6,w7,w8,w9,hs2,hs3⟩) a4 c4 x1 hs4) (fun v G1 L1 hl1 hp=>?_)
 obtain ⟨a6,c5,rfl,w10,hs5,rfl⟩:=hp
 refine JA [(7,.tuple #[.agg #[I (((Ky t.town.net l x1).1).now),Sl a6 ((((Ky t.town.net l x1).1).way).length) c5],I ((Ky t.town.net l x1).2)]),(8,.tuple #[.agg #[I (((Ky t.town.net l x1).1).now),Sl a6 ((((Ky t.town.net l x1).1).way).length) c5],I ((Ky t.town.net l x1).2)]),(9,.agg #[I (((Ky t.town.net l x1).1).now),Sl a6 ((((Ky t.town.net l x1).1).way).length) c5]),(10,I ((Ky t.town.net l x1).2))] (JF [0,1,2,3,4,5,6] [(8,0),(9,0),(10,0)] [] [11] (Ha _) (Kf ?_ KY))
 refine Jz 11 [] (fun X=>?_)
 refine Jv 5 #[I 0,Sl none 0 0] 65 (fun b4=>JA [(11,Pt b4 0)] (JF [0,1,2,3,4,5,6] [(8,0),(9,0),(10,0)] [] [12] (Ha _) (Kf ?_ KY)))
 refine Jz 12 [(5,Pt b4 0),(37,.agg #[I (((Ky t.town.net l x1).1).now),Sl a6 ((((Ky t.town.net l x1).1).way).length) c5])] (fun X=>?_)
 exact KA 0 ([Sg b4 0 [I (((Ky t.town.net l x1).1).now),Sl a6 ((((Ky t.town.net l x1).1).way).length) c5]]::[Sg b2 0 [I 1]]::[Sg b1 0 (Kw l a1 c1 a2 c2 a3 c3)]::[Sg b 0 (Kc (Jf4 t) a_1 c_1 a_5 c_5 a_6 c_6 a_7 c_7 a_8 c_8 a_10 c_10 a5 (c_12-1) a_13 c_13)]::r_7::r_8::r1::r_13::Lr) (J5 [(13,I ((Ky t.town.net l x1).2))] (Ko [0,1,2,3,4,5,6,8,9] [(10,0),(13,0)] [] [(0,Pt b 0),(5,Pt b4 0),(6,I ((Ky t.town.net l x1).2))] (Ha _) (QS (b4,a6,c5,G1) ⟨hl1,w10,hs5⟩)))
 refine Jz 11 [] (fun X=>?_)
 refine Jv 5 #[I 0,Sl none 0 0] 65 (fun b5=>JA [(11,Pt b5 0)] (JF [] [(0,0),(1,0),(2,0),(3,0),(4,8),(5,6),(6,0)] [] [7] (Ha _) (Kf ?_ KY)))
 refine Jz 7 [(33,.agg #[I t.town.net.now,Sl a_10 t.town.net.way.length c_10]),(34,(QZ l a1 c1 a2 c2 a3 c3)),(35,Sl a4 x1.length c4)] (fun X=>?_)
 refine JM 36 (YV G [I t.town.net.now,Sl a_10 t.town.net.way.length c_10] t.town.net (⟨a_10,c_10,rfl,h_9,h_10⟩) (Kw l a1 c1 a2 c2 a3 c3) l (⟨a1,c1,a2,c2,a3,c3,rfl,w1,w2,w3,w4,hs1,w5,w6,w7,w8,w9,hs2,hs3⟩) a4 c4 x1 hs4) (fun v G2 L1 hl2 hp=>?_)
 obtain ⟨a7,c6,rfl,w11,hs6,rfl⟩:=hp
 refine JA [(7,.tuple #[.agg #[I (((Ky t.town.net l x1).1).now),Sl a7 ((((Ky t.town.net l x1).1).way).length) c6],I ((Ky t.town.net l x1).2)]),(8,.tuple #[.agg #[I (((Ky t.town.net l x1).1).now),Sl a7 ((((Ky t.town.net l x1).1).way).length) c6],I ((Ky t.town.net l x1).2)]),(9,.agg #[I (((Ky t.town.net l x1).1).now),Sl a7 ((((Ky t.town.net l x1).1).way).length) c6]),(10,I ((Ky t.town.net l x1).2))] (JF [0,1,2,3,4,5,6] [(8,0),(9,0),(10,0)] [] [12] (Ha _) (Kf ?_ KY))
 refine Jz 12 [(5,Pt b5 0),(37,.agg #[I (((Ky t.town.net l x1).1).now),Sl a7 ((((Ky t.town.net l x1).1).way).length) c6])] (fun X=>?_)
 exact KA 0 ([Sg b5 0 [I (((Ky t.town.net l x1).1).now),Sl a7 ((((Ky t.town.net l x1).1).way).length) c6]]::[Sg b2 0 [I 1]]::[Sg b1 0 (Kw l a1 c1 a2 c2 a3 c3)]::[Sg b 0 (Kc (Jf4 t) a_1 c_1 a_5 c_5 a_6 c_6 a_7 c_7 a_8 c_8 a_10 c_10 a5 (c_12-1) a_13 c_13)]::r_7::r_8::r1::r_13::Lr) (J5 [(13,I ((Ky t.town.net l x1).2))] (Ko [0,1,2,3,4,5,6,8,9] [(10,0),(13,0)] [] [(0,Pt b 0),(5,Pt b5 0),(6,I ((Ky t.town.net l x1).2))] (Ha _) (QS (b5,a7,c6,G2) ⟨hl2,w11,hs6⟩)))
 obtain ⟨b4,a6,c5,G1⟩:=q_
 obtain ⟨hle1,hj1,hj2⟩:=hs
 dsimp only at hle1 hj1 hj2
 dsimp only
 refine Jg [0,0] [(40,Bo (decide ((Ky t.town.net l x1).2=0)))] (Jm (decide ((Ky t.town.net l x1).2=0)) (fun h2=>?_) (fun h2=>?_))
 refine Jd (JT [0,2,0,0,0,9] [] ([Sg b4 0 [I (((Ky t.town.net l x1).1).now),Sl a6 ((((Ky t.town.net l x1).1).way).length) c5]]::[Sg b2 0 [I 1]]::[Sg b1 0 (Kw l a1 c1 a2 c2 a3 c3)]::[Sg b 0 (Kc (⟨(⟨t.town.clerk,t.town.owners,t.town.polls,(Ky t.town.net l x1).1⟩:Wj),t.reach,(t.fates.drop 1),t.events⟩:JI) a_1 c_1 a_5 c_5 a_6 c_6 a_7 c_7 a_8 c_8 a6 c5 a5 (c_12-1) a_13 c_13)]::r_7::r_8::r1::r_13::Lr) (Je (Jk 7 (Jk 7 (Jk 7 (Jk 7 (Jk 7 ?_)))))))
 have hf1:Wm t l=(⟨(⟨t.town.clerk,t.town.owners,t.town.polls,((Ky t.town.net l x1).1)⟩:Wj),t.reach,t.fates.drop 1,t.events⟩:JI):=by
  (rw [Jow (by omega) ‹_›,if_pos ‹_›];done)
 refine ZN [] [] (KH (Lr:=Lr) [[Sg b 0 (Kc (⟨(⟨t.town.clerk,t.town.owners,t.town.polls,(Ky t.town.net l x1).1⟩:Wj),t.reach,(t.fates.drop 1),t.events⟩:JI) a_1 c_1 a_5 c_5 a_6 c_6 a_7 c_7 a_8 c_8 a6 c5 a5 (c_12-1) a_13 c_13)],r_7,r_8,r1,r_13] hle1 ?_)
 rw [hf1];try dsimp only
 exact ⟨a_1,c_1,a_5,c_5,a_6,c_6,a_7,c_7,a_8,c_8,a6,c5,a5,(c_12-1),a_13,c_13,r_7,r_8,r1,r_13,rfl,h_0,(h_1.mono hle1),h_2,h_3,h_4,(h_5.mono hle1),(h_6.mono hle1),(h_7.mono hle1),(h_8.mono hle1),hj1,hj2,h_11,(hr1.mono hle1),(h_13.mono hle1),rfl⟩
 refine Jq (Jk 7 (Jk 7 (Jk 7 (Jk 7 (Jk 7 ?_)))))
 have hf2:Wm t l=(⟨t.town,t.reach,t.fates.drop 1,t.events⟩:JI):=by
  (rw [Jow (by omega) ‹_›,if_neg ‹_›];done)
 refine ZN [] [] (KH (Lr:=Lr) [[Sg b 0 (Kc (Jf4 t) a_1 c_1 a_5 c_5 a_6 c_6 a_7 c_7 a_8 c_8 a_10 c_10 a5 (c_12-1) a_13 c_13)],r_7,r_8,r1,r_13] hle1 ?_)
 rw [hf2];try dsimp only
 exact ⟨a_1,c_1,a_5,c_5,a_6,c_6,a_7,c_7,a_8,c_8,a_10,c_10,a5,(c_12-1),a_13,c_13,r_7,r_8,r1,r_13,rfl,h_0,(h_1.mono hle1),h_2,h_3,h_4,(h_5.mono hle1),(h_6.mono hle1),(h_7.mono hle1),(h_8.mono hle1),h_9,(h_10.mono hle1),h_11,(hr1.mono hle1),(h_13.mono hle1),rfl⟩
 refine Jq (Jc ?_)
 refine Ya (σ:=Nat×Ba×Nat×J4) (fun q_=>(J4.le G q_.2.2.2)∧(rI (((Wd l t).1).now))∧(RS Kl q_.2.2.2 q_.2.1 q_.2.2.1 (((Wd l t).1).way))) (fun q_=>[(0,Pt b 0),(5,Pt q_.1 0),(6,I ((Wd l t).2))]) (fun q_=>q_.2.2.2) (fun q_=>([Sg q_.1 0 [I (((Wd l t).1).now),Sl q_.2.1 ((((Wd l t).1).way).length) q_.2.2.1]]::[]::[Sg b1 0 (Kw l a1 c1 a2 c2 a3 c3)]::[Sg b 0 (Kc t a_1 c_1 a_5 c_5 a_6 c_6 a_7 c_7 a_8 c_8 a_10 c_10 a_12 c_12 a_13 c_13)]::r_7::r_8::r_12::r_13::Lr)) ?_ (fun q_ hs=>?_)
 refine Kv [7,11,12] (Ws [(0,Pt b 0),(1,Pt b 0),(2,Pt b 0),(3,Pt b 9),(4,.agg #[I t.town.net.now,Sl a_10 t.town.net.way.length c_10]),(5,(QZ l a1 c1 a2 c2 a3 c3)),(6,Sl (At b2 0) 1 1)] (JF [] [(0,0),(1,0),(2,0),(3,0),(4,6),(5,4),(6,0)] [] [7,11] (Ha _) (Kf ?_ (Kf ?_ KY))))
 refine Jz 7 [(33,.agg #[I t.town.net.now,Sl a_10 t.town.net.way.length c_10]),(34,(QZ l a1 c1 a2 c2 a3 c3)),(35,Sl (At b2 0) 1 1)] (fun X=>?_)
 refine QK (b:=b2) (o:=0) (cs:=[I 1]) 0 (fun G3 hl3 hz1=>?_)
 have hs7:RS EI G3 (At b2 0) 1 [1]:=RS.lit [[I 1]] [1] ⟨⟨rfl,(by omega)⟩,trivial⟩ hz1 (Hg rfl) (Hg rfl)
 refine JM 36 (YV G3 [I t.town.net.now,Sl a_10 t.town.net.way.length c_10] t.town.net (⟨a_10,c_10,rfl,h_9,(h_10.mono hl3)⟩) (Kw l a1 c1 a2 c2 a3 c3) l (⟨a1,c1,a2,c2,a3,c3,rfl,w1,w2,w3,w4,(hs1.mono hl3),w5,w6,w7,w8,w9,(hs2.mono hl3),(hs3.mono hl3)⟩) (At b2 0) 1 ([1]) hs7) (fun v G4 L1 hl4 hp=>?_)
 obtain ⟨a8,c7,rfl,w12,hs8,rfl⟩:=hp
 refine JA [(7,.tuple #[.agg #[I (((Wd l t).1).now),Sl a8 ((((Wd l t).1).way).length) c7],I ((Wd l t).2)]),(8,.tuple #[.agg #[I (((Wd l t).1).now),Sl a8 ((((Wd l t).1).way).length) c7],I ((Wd l t).2)]),(9,.agg #[I (((Wd l t).1).now),Sl a8 ((((Wd l t).1).way).length) c7]),(10,I ((Wd l t).2))] (JF [0,1,2,3,4,5,6] [(8,0),(9,0),(10,0)] [] [11] (Ha _) (Kf ?_ KY))
 refine Jz 11 [] (fun X=>?_)
 refine Jv 5 #[I 0,Sl none 0 0] 65 (fun b6=>JA [(11,Pt b6 0)] (JF [0,1,2,3,4,5,6] [(8,0),(9,0),(10,0)] [] [12] (Ha _) (Kf ?_ KY)))
 refine Jz 12 [(5,Pt b6 0),(37,.agg #[I (((Wd l t).1).now),Sl a8 ((((Wd l t).1).way).length) c7])] (fun X=>?_)
 exact KA 0 ([Sg b6 0 [I (((Wd l t).1).now),Sl a8 ((((Wd l t).1).way).length) c7]]::[]::[Sg b1 0 (Kw l a1 c1 a2 c2 a3 c3)]::[Sg b 0 (Kc t a_1 c_1 a_5 c_5 a_6 c_6 a_7 c_7 a_8 c_8 a_10 c_10 a_12 c_12 a_13 c_13)]::r_7::r_8::r_12::r_13::Lr) (J5 [(13,I ((Wd l t).2))] (Ko [0,1,2,3,4,5,6,8,9] [(10,0),(13,0)] [] [(0,Pt b 0),(5,Pt b6 0),(6,I ((Wd l t).2))] (Ha _) (QS (b6,a8,c7,G4) ⟨(Ja hl3 hl4),w12,hs8⟩)))
 refine Jz 11 [] (fun X=>?_)
 refine Jv 5 #[I 0,Sl none 0 0] 65 (fun b7=>JA [(11,Pt b7 0)] (JF [] [(0,0),(1,0),(2,0),(3,0),(4,8),(5,6),(6,0)] [] [7] (Ha _) (Kf ?_ KY)))
 refine Jz 7 [(33,.agg #[I t.town.net.now,Sl a_10 t.town.net.way.length c_10]),(34,(QZ l a1 c1 a2 c2 a3 c3)),(35,Sl (At b2 0) 1 1)] (fun X=>?_)
 refine QK (b:=b2) (o:=0) (cs:=[I 1]) 1 (fun G5 hl5 hz2=>?_)
 have hs9:RS EI G5 (At b2 0) 1 [1]:=RS.lit [[I 1]] [1] ⟨⟨rfl,(by omega)⟩,trivial⟩ hz2 (Hg rfl) (Hg rfl)
 refine JM 36 (YV G5 [I t.town.net.now,Sl a_10 t.town.net.way.length c_10] t.town.net (⟨a_10,c_10,rfl,h_9,(h_10.mono hl5)⟩) (Kw l a1 c1 a2 c2 a3 c3) l (⟨a1,c1,a2,c2,a3,c3,rfl,w1,w2,w3,w4,(hs1.mono hl5),w5,w6,w7,w8,w9,(hs2.mono hl5),(hs3.mono hl5)⟩) (At b2 0) 1 ([1]) hs9) (fun v G6 L1 hl6 hp=>?_)
 obtain ⟨a9,c8,rfl,w13,hs10,rfl⟩:=hp
 refine JA [(7,.tuple #[.agg #[I (((Wd l t).1).now),Sl a9 ((((Wd l t).1).way).length) c8],I ((Wd l t).2)]),(8,.tuple #[.agg #[I (((Wd l t).1).now),Sl a9 ((((Wd l t).1).way).length) c8],I ((Wd l t).2)]),(9,.agg #[I (((Wd l t).1).now),Sl a9 ((((Wd l t).1).way).length) c8]),(10,I ((Wd l t).2))] (JF [0,1,2,3,4,5,6] [(8,0),(9,0),(10,0)] [] [12] (Ha _) (Kf ?_ KY))
 refine Jz 12 [(5,Pt b7 0),(37,.agg #[I (((Wd l t).1).now),Sl a9 ((((Wd l t).1).way).length) c8])] (fun X=>?_)
 exact KA 0 ([Sg b7 0 [I (((Wd l t).1).now),Sl a9 ((((Wd l t).1).way).length) c8]]::[]::[Sg b1 0 (Kw l a1 c1 a2 c2 a3 c3)]::[Sg b 0 (Kc t a_1 c_1 a_5 c_5 a_6 c_6 a_7 c_7 a_8 c_8 a_10 c_10 a_12 c_12 a_13 c_13)]::r_7::r_8::r_12::r_13::Lr) (J5 [(13,I ((Wd l t).2))] (Ko [0,1,2,3,4,5,6,8,9] [(10,0),(13,0)] [] [(0,Pt b 0),(5,Pt b7 0),(6,I ((Wd l t).2))] (Ha _) (QS (b7,a9,c8,G6) ⟨(Ja hl5 hl6),w13,hs10⟩)))
 obtain ⟨b6,a8,c7,G4⟩:=q_
 obtain ⟨hle2,hj3,hj4⟩:=hs
 dsimp only at hle2 hj3 hj4
 dsimp only
 refine Jg [0,0] [(40,Bo (decide ((Wd l t).2=0)))] (Jm (decide ((Wd l t).2=0)) (fun h3=>?_) (fun h3=>?_))
 refine Jd (JT [0,2,0,0,0,9] [] ([Sg b6 0 [I (((Wd l t).1).now),Sl a8 ((((Wd l t).1).way).length) c7]]::[]::[Sg b1 0 (Kw l a1 c1 a2 c2 a3 c3)]::[Sg b 0 (Kc (⟨(⟨t.town.clerk,t.town.owners,t.town.polls,(Wd l t).1⟩:Wj),t.reach,t.fates,t.events⟩:JI) a_1 c_1 a_5 c_5 a_6 c_6 a_7 c_7 a_8 c_8 a8 c7 a_12 c_12 a_13 c_13)]::r_7::r_8::r_12::r_13::Lr) (Je (Jk 7 (Jk 7 (Jk 7 (Jk 7 (Jk 7 ?_)))))))
 have hf3:Wm t l=(⟨(⟨t.town.clerk,t.town.owners,t.town.polls,((Wd l t).1)⟩:Wj),t.reach,t.fates,t.events⟩:JI):=by
  (rw [Jov (by omega),if_pos ‹_›];done)
 refine ZN [] [] (KH (Lr:=Lr) [[Sg b 0 (Kc (⟨(⟨t.town.clerk,t.town.owners,t.town.polls,(Wd l t).1⟩:Wj),t.reach,t.fates,t.events⟩:JI) a_1 c_1 a_5 c_5 a_6 c_6 a_7 c_7 a_8 c_8 a8 c7 a_12 c_12 a_13 c_13)],r_7,r_8,r_12,r_13] hle2 ?_)
 rw [hf3];try dsimp only
 exact ⟨a_1,c_1,a_5,c_5,a_6,c_6,a_7,c_7,a_8,c_8,a8,c7,a_12,c_12,a_13,c_13,r_7,r_8,r_12,r_13,rfl,h_0,(h_1.mono hle2),h_2,h_3,h_4,(h_5.mono hle2),(h_6.mono hle2),(h_7.mono hle2),(h_8.mono hle2),hj3,hj4,h_11,(h_12.mono hle2),(h_13.mono hle2),rfl⟩
 refine Jq (Jk 7 (Jk 7 (Jk 7 (Jk 7 (Jk 7 ?_)))))
 have hf4:Wm t l=t:=by
  (rw [Jov (by omega),if_neg ‹_›];done)
 refine ZN [] [] (KH (Lr:=Lr) [[Sg b 0 (Kc t a_1 c_1 a_5 c_5 a_6 c_6 a_7 c_7 a_8 c_8 a_10 c_10 a_12 c_12 a_13 c_13)],r_7,r_8,r_12,r_13] hle2 ?_)
 rw [hf4];try dsimp only
 exact ⟨a_1,c_1,a_5,c_5,a_6,c_6,a_7,c_7,a_8,c_8,a_10,c_10,a_12,c_12,a_13,c_13,r_7,r_8,r_12,r_13,rfl,h_0,(h_1.mono hle2),h_2,h_3,h_4,(h_5.mono hle2),(h_6.mono hle2),(h_7.mono hle2),(h_8.mono hle2),h_9,(h_10.mono hle2),h_11,(h_12.mono hle2),(h_13.mono hle2),rfl⟩
set_option maxRecDepth 20000 in
abbrev Kp (d:K4) (kn1:Nat) (t:JI):=JP (Js t (kn1:Int)) d.value
abbrev Qv (d:K4) (kn1:Nat) (t:JI):=KB t.town.clerk ((Kp d kn1 t).2.1)
abbrev YH (d:K4) (kn1:Nat):=(⟨d.kind,(kn1:Int),d.value,d.fates,d.letter⟩:K4)
abbrev Zv (d:K4) (kn1:Nat) (t:JI):=Jj2 (Kp d kn1 t).2.1
abbrev JkF (d:K4) (kn1:Nat) (t:JI):=(⟨(⟨((Qv d kn1 t).1),t.town.owners.set kn1 ((Kp d kn1 t).1),t.town.polls,t.town.net⟩:Wj),t.reach,t.fates,t.events⟩:JI)
abbrev Vm (d:K4) (kn1:Nat) (t:JI):=Jix (Kp d kn1 t).2.1
set_option maxHeartbeats 1600000 in
theorem JmN (G:J4) (b:Nat) (t:JI) (a_1:Ba) (c_1:Nat) (a_5:Ba) (c_5:Nat) (a_6:Ba) (c_6:Nat) (a_7:Ba) (c_7:Nat) (a_8:Ba) (c_8:Nat) (a_10:Ba) (c_10:Nat) (a_12:Ba) (c_12:Nat) (a_13:Ba) (c_13:Nat) (r_7:Bg) (r_8:Bg) (r_12:Bg) (r_13:Bg) (h_0:rI t.town.clerk.queue.most) (h_1:RS Q6 G a_1 c_1 t.town.clerk.queue.wait) (h_2:rI t.town.clerk.batch) (h_3:rI t.town.clerk.every) (h_4:rI t.town.clerk.now) (h_5:RS KN G a_5 c_5 t.town.clerk.heads) (h_6:RS Qw G a_6 c_6 t.town.clerk.books) (h_7:JX Q9 G a_7 c_7 t.town.owners r_7) (h_8:JX WJ G a_8 c_8 t.town.polls r_8) (h_9:rI t.town.net.now) (h_10:RS Kl G a_10 c_10 t.town.net.way) (h_11:rI t.reach) (h_12:JX Vx G a_12 c_12 t.fates r_12) (h_13:JX Wk G a_13 c_13 t.events r_13) (vs_d:Bv) (d:K4) (h_d:Wl.R G vs_d d) (hev:t.events.length≤1000000):Jcw 60 #[Pt b 0,.agg vs_d.toArray] G [[Sg b 0 [I t.town.clerk.queue.most,Sl a_1 t.town.clerk.queue.wait.length c_1,I t.town.clerk.batch,I t.town.clerk.every,I t.town.clerk.now,Sl a_5 t.town.clerk.heads.length c_5,Sl a_6 t.town.clerk.books.length c_6,Sl a_7 t.town.owners.length c_7,Sl a_8 t.town.polls.length c_8,I t.town.net.now,Sl a_10 t.town.net.way.length c_10,I t.reach,Sl a_12 t.fates.length c_12,Sl a_13 t.events.length c_13]],r_7,r_8,r_12,r_13] (fun u G' L'=>∃ (a_z1:Ba) (c_z1:Nat) (a_z5:Ba) (c_z5:Nat) (a_z6:Ba) (c_z6:Nat) (a_z7:Ba) (c_z7:Nat) (a_z8:Ba) (c_z8:Nat) (a_z10:Ba) (c_z10:Nat) (a_z12:Ba) (c_z12:Nat) (a_z13:Ba) (c_z13:Nat) (r_z7:Bg) (r_z8:Bg) (r_z12:Bg) (r_z13:Bg),u=.tuple #[]∧(rI ((Wi t d).town.clerk.queue.most))∧(RS Q6 G' a_z1 c_z1 ((Wi t d).town.clerk.queue.wait))∧(rI ((Wi t d).town.clerk.batch))∧(rI ((Wi t d).town.clerk.every))∧(rI ((Wi t d).town.clerk.now))∧(RS KN G' a_z5 c_z5 ((Wi t d).town.clerk.heads))∧(RS Qw G' a_z6 c_z6 ((Wi t d).town.clerk.books))∧(JX Q9 G' a_z7 c_z7 ((Wi t d).town.owners) r_z7)∧(JX WJ G' a_z8 c_z8 ((Wi t d).town.polls) r_z8)∧(rI ((Wi t d).town.net.now))∧(RS Kl G' a_z10 c_z10 ((Wi t d).town.net.way))∧(rI ((Wi t d).reach))∧(JX Vx G' a_z12 c_z12 ((Wi t d).fates) r_z12)∧(JX Wk G' a_z13 c_z13 ((Wi t d).events) r_z13)∧L'=[[Sg b 0 [I ((Wi t d).town.clerk.queue.most),Sl a_z1 (((Wi t d).town.clerk.queue.wait).length) c_z1,I ((Wi t d).town.clerk.batch),I ((Wi t d).town.clerk.every),I ((Wi t d).town.clerk.now),Sl a_z5 (((Wi t d).town.clerk.heads).length) c_z5,Sl a_z6 (((Wi t d).town.clerk.books).length) c_z6,Sl a_z7 (((Wi t d).town.owners).length) c_z7,Sl a_z8 (((Wi t d).town.polls).length) c_z8,I ((Wi t d).town.net.now),Sl a_z10 (((Wi t d).town.net.way).length) c_z10,I ((Wi t d).reach),Sl a_z12 (((Wi t d).fates).length) c_z12,Sl a_z13 (((Wi t d).events).length) c_z13]],r_z7,r_z8,r_z12,r_z13]):=by
 obtain ⟨a1,c1,a2,c2,a3,c3,a4,c4,rfl,_,_,w3,_,_,_,_,_,_,_,_,_,_,_,_,_⟩:=h_d
 intro Lr
 refine JQ Tryz.func60 84 [(0,Pt b 0),(1,(Jfz d a1 c1 a2 c2 a3 c3 a4 c4))] rfl (fun w0 G0=>?_)
 show TC _ _ _ _ _ ([Sg b 0 (Kc t a_1 c_1 a_5 c_5 a_6 c_6 a_7 c_7 a_8 c_8 a_10 c_10 a_12 c_12 a_13 c_13)]::r_7::r_8::r_12::r_13::Lr)
 refine Jf (Jd (Jv 3 #[I d.kind,I d.who,Sr d.value,Sl a1 d.fates.length c1,I d.letter.to_,I d.letter.from_,I d.letter.since,I d.letter.due,Sl a2 d.letter.heads.length c2,I d.letter.reply.head.epoch,U d.letter.reply.head.root,U d.letter.reply.head.prev,I d.letter.reply.head.at_,Sr d.letter.reply.proof.name,Sl a3 d.letter.reply.proof.entries.length c3,Sl a4 d.letter.reply.proof.sides.length c4] 53 (fun b1=>Je (Jc (Jf (Jf (Jd (Jb [0,0,2] [(10,Pt b 0),(12,I d.who)] (Jw 5 (Jw 5 (Jw 5 (Jw 5 (Jw 5 (Qu (Ls:=[[Sg b 0 (Kc t a_1 c_1 a_5 c_5 a_6 c_6 a_7 c_7 a_8 c_8 a_10 c_10 a_12 c_12 a_13 c_13)],r_7,r_8,r_12,r_13]) (Lr:=([Sg b1 0 (W5 d a1 c1 a2 c2 a3 c3 a4 c4)]::Lr)) 13 (Jb5 G b t a_1 c_1 a_5 c_5 a_6 c_6 a_7 c_7 a_8 c_8 a_10 c_10 a_12 c_12 a_13 c_13 r_7 r_8 r_12 r_13 h_0 h_1 h_2 h_3 h_4 h_5 h_6 h_7 h_8 h_9 h_10 h_11 h_12 h_13 d.who) (fun v G1 L1 hl1 hp=>?_)))))))))))))))
 obtain ⟨a5,c5,a6,c6,a7,c7,a8,c8,a9,c9,a10,c10,a11,c11,a12,c12,r1,r2,r3,r4,rfl,w13,hs5,w14,w15,w16,hs6,hs7,hr1,hr2,w17,hs8,w18,hr3,hr4,rfl⟩:=hp
 refine Jb [0] [(14,Bo (!(Zg t d.who)))] (Je (Jc (Jm (!(Zg t d.who)) (fun h1=>?_) (fun h1=>?_))))
 refine Jn (Jj (Jk 4 (Jk 4 (Jk 4 (Jk 4 (Jk 4 ?_))))))
 have hf1:Wi t d=t:=by
  exact tWant0 ‹_›
 refine Jo [] [] (KH (Lr:=Lr) [[Sg b 0 (Kc t a5 c5 a6 c6 a7 c7 a8 c8 a9 c9 a10 c10 a11 c11 a12 c12)],r1,r2,r3,r4] hl1 ?_)
 rw [hf1];try dsimp only
 exact ⟨a5,c5,a6,c6,a7,c7,a8,c8,a9,c9,a10,c10,a11,c11,a12,c12,r1,r2,r3,r4,rfl,w13,hs5,w14,w15,w16,hs6,hs7,hr1,hr2,w17,hs8,w18,hr3,hr4,rfl⟩
 refine Jq (Jc ?_)
 have hown:=JaK.1 (show Zg t d.who=true by assumption)
 obtain ⟨kn1,hkn1⟩:∃ k_:Nat,d.who=(k_:Int):=⟨(d.who).toNat,by omega⟩
 have e1:d.who=(kn1:Int):=hkn1
 refine JcN (L':=([Sg b 0 [I t.town.clerk.queue.most,Sl a5 t.town.clerk.queue.wait.length c5,I t.town.clerk.batch,I t.town.clerk.every,I t.town.clerk.now,Sl a6 t.town.clerk.heads.length c6,Sl a7 t.town.clerk.books.length c7,Sl a8 t.town.owners.length c8,Sl a9 t.town.polls.length c9,I t.town.net.now,Sl a10 t.town.net.way.length c10,I t.reach,Sl a11 t.fates.length c11,Sl a12 t.events.length c12]]::r1::r2::r3::r4::[Sg b1 0 [I d.kind,I (kn1:Int),Sr d.value,Sl a1 d.fates.length c1,I d.letter.to_,I d.letter.from_,I d.letter.since,I d.letter.due,Sl a2 d.letter.heads.length c2,I d.letter.reply.head.epoch,U d.letter.reply.head.root,U d.letter.reply.head.prev,I d.letter.reply.head.at_,Sr d.letter.reply.proof.name,Sl a3 d.letter.reply.proof.entries.length c3,Sl a4 d.letter.reply.proof.sides.length c4]]::Lr)) (by (simp only [Jix,KW,W5,KU,Kc,Jj2,QC,Jfz,KC,e1];first | done | rfl)) (Jf ?_)
 have hx1:(t.town.owners)[kn1]? = some (Js t (kn1:Int)):=YW (by omega)
 obtain ⟨b2,o1,_,_,⟨a13,c13,rfl,w19,w20,w21,w22,w23,w24,hs9,w25⟩,ha1,hre1,hc1⟩:=JX.ix hr1 hx1
 refine Kv [] (Ws [(0,Pt b 0),(1,Pt b 0),(2,Pt b 0),(3,Pt b 7),(4,Sl a8 t.town.owners.length c8),(5,Pt b1 1),(6,I (kn1:Int)),(7,Pt b2 (o1+kn1*8)),(8,Pt b2 (o1+kn1*8+6)),(9,Sl a13 (((Js t (kn1:Int)).wanted).length) c13),(10,I ((((Js t (kn1:Int)).wanted).length:Nat):Int)),(11,I ((((Js t (kn1:Int)).wanted).length:Nat):Int))] (Ko [] [(0,0),(1,0),(2,0),(3,0),(4,2),(5,0),(6,12),(8,0),(10,0),(11,0)] [7,9] [(0,Pt b 0),(3,Pt b1 0),(4,I ((((Js t (kn1:Int)).wanted).length:Nat):Int))] (Kf ?_ (Kf ?_ KY)) ?_))
 refine Jr 7 22 (Pt b2 (o1+kn1*8)) [(19,Sl a8 t.town.owners.length c8),(21,I (kn1:Int))] (fun X=>?_)
 exact Qq (b:=b2) (off:=o1) (len:=t.town.owners.length) (cap:=c8) (ik:=.i64) 22 76 8 kn1 ha1 Kd Jp
 refine Jr 9 24 (Sl a13 (((Js t (kn1:Int)).wanted).length) c13) [(23,Pt b2 (o1+kn1*8+6))] (fun X=>?_)
 exact W2 (off:=o1) (p:=kn1*8) (cs:=(KU (Js t (kn1:Int)) a13 c13)) 24 22 1 6 (Sl a13 (((Js t (kn1:Int)).wanted).length) c13) hre1 hc1 Jp
 refine Jc ?_
 refine Ya (σ:=Nat×Nat×Ba×Nat×J4) (fun q_=>(J4.le G1 q_.2.2.2.2)∧((((Kp d kn1 t).2.1).name).length≤140737488351232)∧((((Kp d kn1 t).2.1).value).length≤140737488351232)∧(rU (((Kp d kn1 t).2.1).n))∧(rU (((Kp d kn1 t).2.1).tag))∧((((Kp d kn1 t).1).name).length≤140737488351232)∧(rU (((Kp d kn1 t).1).key))∧(rI (((Kp d kn1 t).1).head.epoch))∧(rU (((Kp d kn1 t).1).head.root))∧(rU (((Kp d kn1 t).1).head.prev))∧(rI (((Kp d kn1 t).1).head.at_))∧(RS ES q_.2.2.2.2 q_.2.2.1 q_.2.2.2.1 (((Kp d kn1 t).1).wanted))∧(rI (((Kp d kn1 t).1).had))) (fun q_=>[(0,Pt b 0),(3,Pt b1 0),(4,I ((((Js t (kn1:Int)).wanted).length:Nat):Int)),(5,Pt q_.1 0),(6,Pt q_.2.1 0),(7,I ((Kp d kn1 t).2.2))]) (fun q_=>q_.2.2.2.2) (fun q_=>([Sg q_.2.1 0 (Vm d kn1 t)]::[Sg q_.1 0 (KU (Kp d kn1 t).1 q_.2.2.1 q_.2.2.2.1)]::[Sg b 0 (Kc t a5 c5 a6 c6 a7 c7 a8 c8 a9 c9 a10 c10 a11 c11 a12 c12)]::r1::r2::r3::r4::[Sg b1 0 (W5 (YH d kn1) a1 c1 a2 c2 a3 c3 a4 c4)]::Lr)) ?_ (fun q_ hs=>?_)
 refine Kv [11,16,17,18,19] (Ws [(0,Pt b 0),(1,Pt b 0),(2,Pt b 0),(3,Pt b 7),(4,Sl a8 t.town.owners.length c8),(5,Pt b1 1),(6,I (kn1:Int)),(7,Pt b2 (o1+kn1*8)),(8,(KC (Js t (kn1:Int)) a13 c13)),(9,Pt b1 2),(10,Sr d.value)] (JF [] [(0,0),(1,0),(2,0),(3,0),(4,2),(5,0),(6,12),(9,0),(10,12)] [7,8] [11,16,17] (Kf ?_ (Kf ?_ KY)) (Kf ?_ (Kf ?_ (Kf ?_ KY)))))
 refine Jr 7 34 (Pt b2 (o1+kn1*8)) [(31,Sl a8 t.town.owners.length c8),(33,I (kn1:Int))] (fun X=>?_)
 exact Qq (b:=b2) (off:=o1) (len:=t.town.owners.length) (cap:=c8) (ik:=.i64) 34 76 8 kn1 ha1 Kd Jp
 refine Jr 8 35 (KC (Js t (kn1:Int)) a13 c13) [(34,Pt b2 (o1+kn1*8))] (fun X=>?_)
 exact W2 (off:=o1) (p:=kn1*8) (cs:=(KU (Js t (kn1:Int)) a13 c13)) 35 76 1 0 (KC (Js t (kn1:Int)) a13 c13) hre1 hc1 Jp
 refine Jz 11 [(35,(KC (Js t (kn1:Int)) a13 c13)),(37,Sr d.value)] (fun X=>?_)
 refine JM 38 (Vd G1 (KU (Js t (kn1:Int)) a13 c13) (Js t (kn1:Int)) (⟨a13,c13,rfl,w19,w20,w21,w22,w23,w24,hs9,w25⟩) d.value w3) (fun v G2 L1 hl2 hp=>?_)
 obtain ⟨a14,c14,rfl,w26,w27,w28,w29,w30,w31,hs10,w32,w33,w34,w35,w36,rfl⟩:=hp
 refine JA [(11,.tuple #[(KC (Kp d kn1 t).1 a14 c14),(Zv d kn1 t),I ((Kp d kn1 t).2.2)]),(12,.tuple #[(KC (Kp d kn1 t).1 a14 c14),(Zv d kn1 t),I ((Kp d kn1 t).2.2)]),(13,(KC (Kp d kn1 t).1 a14 c14)),(14,(Zv d kn1 t)),(15,I ((Kp d kn1 t).2.2))] (JF [0,1,2,3,4,5,6,7,8,9,10] [(12,0),(13,0),(14,0),(15,0)] [] [16,17] (Ha _) (Kf ?_ (Kf ?_ KY)))
 refine Jz 16 [] (fun X=>?_)
 refine Jv 5 #[Sr ([]),U 0,I 0,U 0,U 0,I 0,Sl none 0 0,I 0] 76 (fun b3=>JA [(16,Pt b3 0)] (JF [0,1,2,3,4,5,6,7,8,9,10] [(12,0),(13,0),(14,0),(15,0)] [] [17] (Ha _) (Kf ?_ KY)))
 refine Jz 17 [] (fun X=>?_)
 refine Jv 6 #[Sr ([]),Sr ([]),U 0,U 0] 182 (fun b4=>JA [(17,Pt b4 0)] (JF [0,1,2,3,4,5,6,7,8,9,10] [(12,0),(13,0),(14,0),(15,0)] [] [18] (Ha _) (Kf ?_ KY)))
 refine Jz 18 [(5,Pt b3 0),(39,(KC (Kp d kn1 t).1 a14 c14))] (fun X=>?_)
 refine KA 1 ([Sg b4 0 [Sr ([]),Sr ([]),U 0,U 0]]::[Sg b3 0 (KU (Kp d kn1 t).1 a14 c14)]::[Sg b 0 (Kc t a5 c5 a6 c6 a7 c7 a8 c8 a9 c9 a10 c10 a11 c11 a12 c12)]::r1::r2::r3::r4::[Sg b1 0 (W5 (YH d kn1) a1 c1 a2 c2 a3 c3 a4 c4)]::Lr) (J5 [] (JF [0,1,2,3,4,5,6,7,8,9,10,12,13] [(14,0),(15,0)] [] [19] (Ha _) (Kf ?_ KY)))
 refine Jz 19 [(6,Pt b4 0),(40,(Zv d kn1 t))] (fun X=>?_)
 exact KA 0 ([Sg b4 0 (Vm d kn1 t)]::[Sg b3 0 (KU (Kp d kn1 t).1 a14 c14)]::[Sg b 0 (Kc t a5 c5 a6 c6 a7 c7 a8 c8 a9 c9 a10 c10 a11 c11 a12 c12)]::r1::r2::r3::r4::[Sg b1 0 (W5 (YH d kn1) a1 c1 a2 c2 a3 c3 a4 c4)]::Lr) (J5 [(20,I ((Kp d kn1 t).2.2))] (Ko [0,1,2,3,4,5,6,7,8,9,10,12,13,14] [(15,0),(20,0)] [] [(0,Pt b 0),(3,Pt b1 0),(4,I ((((Js t (kn1:Int)).wanted).length:Nat):Int)),(5,Pt b3 0),(6,Pt b4 0),(7,I ((Kp d kn1 t).2.2))] (Ha _) (QS (b3,b4,a14,c14,G2) ⟨hl2,w33,w34,w35,w36,w26,w27,w28,w29,w30,w31,hs10,w32⟩)))
 refine Jz 17 [] (fun X=>?_)
 refine Jv 6 #[Sr ([]),Sr ([]),U 0,U 0] 182 (fun b5=>JA [(17,Pt b5 0)] (JF [0,1,2,3,4,5,6,7,8,9,10] [(12,0),(13,0),(14,0),(15,0)] [] [16] (Ha _) (Kf ?_ KY)))
 refine Jz 16 [] (fun X=>?_)
 refine Jv 5 #[Sr ([]),U 0,I 0,U 0,U 0,I 0,Sl none 0 0,I 0] 76 (fun b6=>JA [(16,Pt b6 0)] (JF [0,1,2,3,4,5,6,7,8,9,10] [(12,0),(13,0),(14,0),(15,0)] [] [18] (Ha _) (Kf ?_ KY)))
 refine Jz 18 [(5,Pt b6 0),(39,(KC (Kp d kn1 t).1 a14 c14))] (fun X=>?_)
 refine KA 0 ([Sg b6 0 (KU (Kp d kn1 t).1 a14 c14)]::[Sg b5 0 [Sr ([]),Sr ([]),U 0,U 0]]::[Sg b 0 (Kc t a5 c5 a6 c6 a7 c7 a8 c8 a9 c9 a10 c10 a11 c11 a12 c12)]::r1::r2::r3::r4::[Sg b1 0 (W5 (YH d kn1) a1 c1 a2 c2 a3 c3 a4 c4)]::Lr) (J5 [] (JF [0,1,2,3,4,5,6,7,8,9,10,12,13] [(14,0),(15,0)] [] [19] (Ha _) (Kf ?_ KY)))
 refine Jz 19 [(6,Pt b5 0),(40,(Zv d kn1 t))] (fun X=>?_)
 refine KA 1 ([Sg b6 0 (KU (Kp d kn1 t).1 a14 c14)]::[Sg b5 0 (Vm d kn1 t)]::[Sg b 0 (Kc t a5 c5 a6 c6 a7 c7 a8 c8 a9 c9 a10 c10 a11 c11 a12 c12)]::r1::r2::r3::r4::[Sg b1 0 (W5 (YH d kn1) a1 c1 a2 c2 a3 c3 a4 c4)]::Lr) (J5 [(20,I ((Kp d kn1 t).2.2))] (Ko [0,1,2,3,4,5,6,7,8,9,10,12,13,14] [(15,0),(20,0)] [] [(0,Pt b 0),(3,Pt b1 0),(4,I ((((Js t (kn1:Int)).wanted).length:Nat):Int)),(5,Pt b6 0),(6,Pt b5 0),(7,I ((Kp d kn1 t).2.2))] (Ha _) (Jk 7 (Jk 7 (Jk 7 (Jk 7 (Jk 7 (Jk 7 (Jk 6 (Jk 7 ?_))))))))))
 exact QS (b6,b5,a14,c14,G2) ⟨hl2,w33,w34,w35,w36,w26,w27,w28,w29,w30,w31,hs10,w32⟩
 refine Jz 16 [] (fun X=>?_)
 refine Jv 5 #[Sr ([]),U 0,I 0,U 0,U 0,I 0,Sl none 0 0,I 0] 76 (fun b7=>JA [(16,Pt b7 0)] (JF [] [(0,0),(1,0),(2,0),(3,0),(4,4),(5,0),(6,14),(9,0),(10,14)] [7,8] [11,17] (Kf ?_ (Kf ?_ KY)) (Kf ?_ (Kf ?_ KY))))
 refine Jr 7 34 (Pt b2 (o1+kn1*8)) [(31,Sl a8 t.town.owners.length c8),(33,I (kn1:Int))] (fun X=>?_)
 exact Qq (b:=b2) (off:=o1) (len:=t.town.owners.length) (cap:=c8) (ik:=.i64) 34 76 8 kn1 ha1 Kd Jp
 refine Jr 8 35 (KC (Js t (kn1:Int)) a13 c13) [(34,Pt b2 (o1+kn1*8))] (fun X=>?_)
 exact W2 (off:=o1) (p:=kn1*8) (cs:=(KU (Js t (kn1:Int)) a13 c13)) 35 76 2 0 (KC (Js t (kn1:Int)) a13 c13) hre1 hc1 Jp
 refine Jz 11 [(35,(KC (Js t (kn1:Int)) a13 c13)),(37,Sr d.value)] (fun X=>?_)
 refine JM 38 (Vd G1 (KU (Js t (kn1:Int)) a13 c13) (Js t (kn1:Int)) (⟨a13,c13,rfl,w19,w20,w21,w22,w23,w24,hs9,w25⟩) d.value w3) (fun v G3 L1 hl3 hp=>?_)
 obtain ⟨a15,c15,rfl,w37,w38,w39,w40,w41,w42,hs11,w43,w44,w45,w46,w47,rfl⟩:=hp
 refine JA [(11,.tuple #[(KC (Kp d kn1 t).1 a15 c15),(Zv d kn1 t),I ((Kp d kn1 t).2.2)]),(12,.tuple #[(KC (Kp d kn1 t).1 a15 c15),(Zv d kn1 t),I ((Kp d kn1 t).2.2)]),(13,(KC (Kp d kn1 t).1 a15 c15)),(14,(Zv d kn1 t)),(15,I ((Kp d kn1 t).2.2))] (JF [0,1,2,3,4,5,6,7,8,9,10] [(12,0),(13,0),(14,0),(15,0)] [] [17] (Ha _) (Kf ?_ KY))
 refine Jz 17 [] (fun X=>?_)
 refine Jv 6 #[Sr ([]),Sr ([]),U 0,U 0] 182 (fun b8=>JA [(17,Pt b8 0)] (JF [0,1,2,3,4,5,6,7,8,9,10] [(12,0),(13,0),(14,0),(15,0)] [] [18] (Ha _) (Kf ?_ KY)))
 refine Jz 18 [(5,Pt b7 0),(39,(KC (Kp d kn1 t).1 a15 c15))] (fun X=>?_)
 refine KA 1 ([Sg b8 0 [Sr ([]),Sr ([]),U 0,U 0]]::[Sg b7 0 (KU (Kp d kn1 t).1 a15 c15)]::[Sg b 0 (Kc t a5 c5 a6 c6 a7 c7 a8 c8 a9 c9 a10 c10 a11 c11 a12 c12)]::r1::r2::r3::r4::[Sg b1 0 (W5 (YH d kn1) a1 c1 a2 c2 a3 c3 a4 c4)]::Lr) (J5 [] (JF [0,1,2,3,4,5,6,7,8,9,10,12,13] [(14,0),(15,0)] [] [19] (Ha _) (Kf ?_ KY)))
 refine Jz 19 [(6,Pt b8 0),(40,(Zv d kn1 t))] (fun X=>?_)
 exact KA 0 ([Sg b8 0 (Vm d kn1 t)]::[Sg b7 0 (KU (Kp d kn1 t).1 a15 c15)]::[Sg b 0 (Kc t a5 c5 a6 c6 a7 c7 a8 c8 a9 c9 a10 c10 a11 c11 a12 c12)]::r1::r2::r3::r4::[Sg b1 0 (W5 (YH d kn1) a1 c1 a2 c2 a3 c3 a4 c4)]::Lr) (J5 [(20,I ((Kp d kn1 t).2.2))] (Ko [0,1,2,3,4,5,6,7,8,9,10,12,13,14] [(15,0),(20,0)] [] [(0,Pt b 0),(3,Pt b1 0),(4,I ((((Js t (kn1:Int)).wanted).length:Nat):Int)),(5,Pt b7 0),(6,Pt b8 0),(7,I ((Kp d kn1 t).2.2))] (Ha _) (QS (b7,b8,a15,c15,G3) ⟨hl3,w44,w45,w46,w47,w37,w38,w39,w40,w41,w42,hs11,w43⟩)))
 refine Jz 17 [] (fun X=>?_)
 refine Jv 6 #[Sr ([]),Sr ([]),U 0,U 0] 182 (fun b9=>JA [(17,Pt b9 0)] (JF [] [(0,0),(1,0),(2,0),(3,0),(4,6),(5,0),(6,16),(9,0),(10,16)] [7,8] [11] (Kf ?_ (Kf ?_ KY)) (Kf ?_ KY)))
 refine Jr 7 34 (Pt b2 (o1+kn1*8)) [(31,Sl a8 t.town.owners.length c8),(33,I (kn1:Int))] (fun X=>?_)
 exact Qq (b:=b2) (off:=o1) (len:=t.town.owners.length) (cap:=c8) (ik:=.i64) 34 76 8 kn1 ha1 Kd Jp
 refine Jr 8 35 (KC (Js t (kn1:Int)) a13 c13) [(34,Pt b2 (o1+kn1*8))] (fun X=>?_)
 exact W2 (off:=o1) (p:=kn1*8) (cs:=(KU (Js t (kn1:Int)) a13 c13)) 35 76 3 0 (KC (Js t (kn1:Int)) a13 c13) hre1 hc1 Jp
 refine Jz 11 [(35,(KC (Js t (kn1:Int)) a13 c13)),(37,Sr d.value)] (fun X=>?_)
 refine JM 38 (Vd G1 (KU (Js t (kn1:Int)) a13 c13) (Js t (kn1:Int)) (⟨a13,c13,rfl,w19,w20,w21,w22,w23,w24,hs9,w25⟩) d.value w3) (fun v G4 L1 hl4 hp=>?_)
 obtain ⟨a16,c16,rfl,w48,w49,w50,w51,w52,w53,hs12,w54,w55,w56,w57,w58,rfl⟩:=hp
 refine JA [(11,.tuple #[(KC (Kp d kn1 t).1 a16 c16),(Zv d kn1 t),I ((Kp d kn1 t).2.2)]),(12,.tuple #[(KC (Kp d kn1 t).1 a16 c16),(Zv d kn1 t),I ((Kp d kn1 t).2.2)]),(13,(KC (Kp d kn1 t).1 a16 c16)),(14,(Zv d kn1 t)),(15,I ((Kp d kn1 t).2.2))] (JF [0,1,2,3,4,5,6,7,8,9,10] [(12,0),(13,0),(14,0),(15,0)] [] [18] (Ha _) (Kf ?_ KY))
 refine Jz 18 [(5,Pt b7 0),(39,(KC (Kp d kn1 t).1 a16 c16))] (fun X=>?_)
 refine KA 1 ([Sg b9 0 [Sr ([]),Sr ([]),U 0,U 0]]::[Sg b7 0 (KU (Kp d kn1 t).1 a16 c16)]::[Sg b 0 (Kc t a5 c5 a6 c6 a7 c7 a8 c8 a9 c9 a10 c10 a11 c11 a12 c12)]::r1::r2::r3::r4::[Sg b1 0 (W5 (YH d kn1) a1 c1 a2 c2 a3 c3 a4 c4)]::Lr) (J5 [] (JF [0,1,2,3,4,5,6,7,8,9,10,12,13] [(14,0),(15,0)] [] [19] (Ha _) (Kf ?_ KY)))
 refine Jz 19 [(6,Pt b9 0),(40,(Zv d kn1 t))] (fun X=>?_)
 exact KA 0 ([Sg b9 0 (Vm d kn1 t)]::[Sg b7 0 (KU (Kp d kn1 t).1 a16 c16)]::[Sg b 0 (Kc t a5 c5 a6 c6 a7 c7 a8 c8 a9 c9 a10 c10 a11 c11 a12 c12)]::r1::r2::r3::r4::[Sg b1 0 (W5 (YH d kn1) a1 c1 a2 c2 a3 c3 a4 c4)]::Lr) (J5 [(20,I ((Kp d kn1 t).2.2))] (Ko [0,1,2,3,4,5,6,7,8,9,10,12,13,14] [(15,0),(20,0)] [] [(0,Pt b 0),(3,Pt b1 0),(4,I ((((Js t (kn1:Int)).wanted).length:Nat):Int)),(5,Pt b7 0),(6,Pt b9 0),(7,I ((Kp d kn1 t).2.2))] (Ha _) (QS (b7,b9,a16,c16,G4) ⟨hl4,w55,w56,w57,w58,w48,w49,w50,w51,w52,w53,hs12,w54⟩)))
 refine Jz 17 [] (fun X=>?_)
 refine Jv 6 #[Sr ([]),Sr ([]),U 0,U 0] 182 (fun b10=>JA [(17,Pt b10 0)] (JF [] [(0,0),(1,0),(2,0),(3,0),(4,4),(5,0),(6,14),(9,0),(10,14)] [7,8] [11,16] (Kf ?_ (Kf ?_ KY)) (Kf ?_ (Kf ?_ KY))))
 refine Jr 7 34 (Pt b2 (o1+kn1*8)) [(31,Sl a8 t.town.owners.length c8),(33,I (kn1:Int))] (fun X=>?_)
 exact Qq (b:=b2) (off:=o1) (len:=t.town.owners.length) (cap:=c8) (ik:=.i64) 34 76 8 kn1 ha1 Kd Jp
 refine Jr 8 35 (KC (Js t (kn1:Int)) a13 c13) [(34,Pt b2 (o1+kn1*8))] (fun X=>?_)
 exact W2 (off:=o1) (p:=kn1*8) (cs:=(KU (Js t (kn1:Int)) a13 c13)) 35 76 2 0 (KC (Js t (kn1:Int)) a13 c13) hre1 hc1 Jp
 refine Jz 11 [(35,(KC (Js t (kn1:Int)) a13 c13)),(37,Sr d.value)] (fun X=>?_)
 refine JM 38 (Vd G1 (KU (Js t (kn1:Int)) a13 c13) (Js t (kn1:Int)) (⟨a13,c13,rfl,w19,w20,w21,w22,w23,w24,hs9,w25⟩) d.value w3) (fun v G5 L1 hl5 hp=>?_)
 obtain ⟨a17,c17,rfl,w59,w60,w61,w62,w63,w64,hs13,w65,w66,w67,w68,w69,rfl⟩:=hp
 refine JA [(11,.tuple #[(KC (Kp d kn1 t).1 a17 c17),(Zv d kn1 t),I ((Kp d kn1 t).2.2)]),(12,.tuple #[(KC (Kp d kn1 t).1 a17 c17),(Zv d kn1 t),I ((Kp d kn1 t).2.2)]),(13,(KC (Kp d kn1 t).1 a17 c17)),(14,(Zv d kn1 t)),(15,I ((Kp d kn1 t).2.2))] (JF [0,1,2,3,4,5,6,7,8,9,10] [(12,0),(13,0),(14,0),(15,0)] [] [16] (Ha _) (Kf ?_ KY))
 refine Jz 16 [] (fun X=>?_)
 refine Jv 5 #[Sr ([]),U 0,I 0,U 0,U 0,I 0,Sl none 0 0,I 0] 76 (fun b11=>JA [(16,Pt b11 0)] (JF [0,1,2,3,4,5,6,7,8,9,10] [(12,0),(13,0),(14,0),(15,0)] [] [18] (Ha _) (Kf ?_ KY)))
 refine Jz 18 [(5,Pt b11 0),(39,(KC (Kp d kn1 t).1 a17 c17))] (fun X=>?_)
 refine KA 0 ([Sg b11 0 (KU (Kp d kn1 t).1 a17 c17)]::[Sg b10 0 [Sr ([]),Sr ([]),U 0,U 0]]::[Sg b 0 (Kc t a5 c5 a6 c6 a7 c7 a8 c8 a9 c9 a10 c10 a11 c11 a12 c12)]::r1::r2::r3::r4::[Sg b1 0 (W5 (YH d kn1) a1 c1 a2 c2 a3 c3 a4 c4)]::Lr) (J5 [] (JF [0,1,2,3,4,5,6,7,8,9,10,12,13] [(14,0),(15,0)] [] [19] (Ha _) (Kf ?_ KY)))
 refine Jz 19 [(6,Pt b10 0),(40,(Zv d kn1 t))] (fun X=>?_)
 refine KA 1 ([Sg b11 0 (KU (Kp d kn1 t).1 a17 c17)]::[Sg b10 0 (Vm d kn1 t)]::[Sg b 0 (Kc t a5 c5 a6 c6 a7 c7 a8 c8 a9 c9 a10 c10 a11 c11 a12 c12)]::r1::r2::r3::r4::[Sg b1 0 (W5 (YH d kn1) a1 c1 a2 c2 a3 c3 a4 c4)]::Lr) (J5 [(20,I ((Kp d kn1 t).2.2))] (Ko [0,1,2,3,4,5,6,7,8,9,10,12,13,14] [(15,0),(20,0)] [] [(0,Pt b 0),(3,Pt b1 0),(4,I ((((Js t (kn1:Int)).wanted).length:Nat):Int)),(5,Pt b11 0),(6,Pt b10 0),(7,I ((Kp d kn1 t).2.2))] (Ha _) (Jk 7 (Jk 7 (Jk 7 (Jk 7 (Jk 7 (Jk 7 (Jk 6 (Jk 7 ?_))))))))))
 exact QS (b11,b10,a17,c17,G5) ⟨hl5,w66,w67,w68,w69,w59,w60,w61,w62,w63,w64,hs13,w65⟩
 refine Jz 16 [] (fun X=>?_)
 refine Jv 5 #[Sr ([]),U 0,I 0,U 0,U 0,I 0,Sl none 0 0,I 0] 76 (fun b12=>JA [(16,Pt b12 0)] (JF [] [(0,0),(1,0),(2,0),(3,0),(4,6),(5,0),(6,16),(9,0),(10,16)] [7,8] [11] (Kf ?_ (Kf ?_ KY)) (Kf ?_ KY)))
 refine Jr 7 34 (Pt b2 (o1+kn1*8)) [(31,Sl a8 t.town.owners.length c8),(33,I (kn1:Int))] (fun X=>?_)
 exact Qq (b:=b2) (off:=o1) (len:=t.town.owners.length) (cap:=c8) (ik:=.i64) 34 76 8 kn1 ha1 Kd Jp
 refine Jr 8 35 (KC (Js t (kn1:Int)) a13 c13) [(34,Pt b2 (o1+kn1*8))] (fun X=>?_)
 exact W2 (off:=o1) (p:=kn1*8) (cs:=(KU (Js t (kn1:Int)) a13 c13)) 35 76 3 0 (KC (Js t (kn1:Int)) a13 c13) hre1 hc1 Jp
 refine Jz 11 [(35,(KC (Js t (kn1:Int)) a13 c13)),(37,Sr d.value)] (fun X=>?_)
 refine JM 38 (Vd G1 (KU (Js t (kn1:Int)) a13 c13) (Js t (kn1:Int)) (⟨a13,c13,rfl,w19,w20,w21,w22,w23,w24,hs9,w25⟩) d.value w3) (fun v G6 L1 hl6 hp=>?_)
 obtain ⟨a18,c18,rfl,w70,w71,w72,w73,w74,w75,hs14,w76,w77,w78,w79,w80,rfl⟩:=hp
 refine JA [(11,.tuple #[(KC (Kp d kn1 t).1 a18 c18),(Zv d kn1 t),I ((Kp d kn1 t).2.2)]),(12,.tuple #[(KC (Kp d kn1 t).1 a18 c18),(Zv d kn1 t),I ((Kp d kn1 t).2.2)]),(13,(KC (Kp d kn1 t).1 a18 c18)),(14,(Zv d kn1 t)),(15,I ((Kp d kn1 t).2.2))] (JF [0,1,2,3,4,5,6,7,8,9,10] [(12,0),(13,0),(14,0),(15,0)] [] [18] (Ha _) (Kf ?_ KY))
 refine Jz 18 [(5,Pt b12 0),(39,(KC (Kp d kn1 t).1 a18 c18))] (fun X=>?_)
 refine KA 0 ([Sg b12 0 (KU (Kp d kn1 t).1 a18 c18)]::[Sg b10 0 [Sr ([]),Sr ([]),U 0,U 0]]::[Sg b 0 (Kc t a5 c5 a6 c6 a7 c7 a8 c8 a9 c9 a10 c10 a11 c11 a12 c12)]::r1::r2::r3::r4::[Sg b1 0 (W5 (YH d kn1) a1 c1 a2 c2 a3 c3 a4 c4)]::Lr) (J5 [] (JF [0,1,2,3,4,5,6,7,8,9,10,12,13] [(14,0),(15,0)] [] [19] (Ha _) (Kf ?_ KY)))
 refine Jz 19 [(6,Pt b10 0),(40,(Zv d kn1 t))] (fun X=>?_)
 refine KA 1 ([Sg b12 0 (KU (Kp d kn1 t).1 a18 c18)]::[Sg b10 0 (Vm d kn1 t)]::[Sg b 0 (Kc t a5 c5 a6 c6 a7 c7 a8 c8 a9 c9 a10 c10 a11 c11 a12 c12)]::r1::r2::r3::r4::[Sg b1 0 (W5 (YH d kn1) a1 c1 a2 c2 a3 c3 a4 c4)]::Lr) (J5 [(20,I ((Kp d kn1 t).2.2))] (Ko [0,1,2,3,4,5,6,7,8,9,10,12,13,14] [(15,0),(20,0)] [] [(0,Pt b 0),(3,Pt b1 0),(4,I ((((Js t (kn1:Int)).wanted).length:Nat):Int)),(5,Pt b12 0),(6,Pt b10 0),(7,I ((Kp d kn1 t).2.2))] (Ha _) (Jk 7 (Jk 7 (Jk 7 (Jk 7 (Jk 7 (Jk 7 (Jk 6 (Jk 7 ?_))))))))))
 exact QS (b12,b10,a18,c18,G6) ⟨hl6,w77,w78,w79,w80,w70,w71,w72,w73,w74,w75,hs14,w76⟩
 obtain ⟨b3,b4,a14,c14,G2⟩:=q_
 obtain ⟨hle1,hj1,hj2,hj3,hj4,hj5,hj6,hj7,hj8,hj9,hj10,hj11,hj12⟩:=hs
 dsimp only at hle1 hj1 hj2 hj3 hj4 hj5 hj6 hj7 hj8 hj9 hj10 hj11 hj12
 dsimp only
 refine Jf (Jf (Jd (Jb [0,0,0] [(44,Bo (!decide ((Kp d kn1 t).2.2=0)))] (QU [44] (!decide ((Kp d kn1 t).2.2=0)) (fun h2=>?_) (fun h2=>?_)))))
 refine Jb [1,1,1,1,1,0] [(50,Bo true)] (Je (Jc (J0 (Jn (Jj (Jk 6 (Jk 6 (Jk 6 (Jk 6 (Jk 6 ?_))))))))))
 have hf2:Wi t d=t:=by
  exact tWant1 ‹_› ‹_› ‹_›
 refine Jo [] [] (KH (Lr:=Lr) [[Sg b 0 (Kc t a5 c5 a6 c6 a7 c7 a8 c8 a9 c9 a10 c10 a11 c11 a12 c12)],r1,r2,r3,r4] (Ja hl1 hle1) ?_)
 rw [hf2];try dsimp only
 exact ⟨a5,c5,a6,c6,a7,c7,a8,c8,a9,c9,a10,c10,a11,c11,a12,c12,r1,r2,r3,r4,rfl,w13,(hs5.mono hle1),w14,w15,w16,(hs6.mono hle1),(hs7.mono hle1),(hr1.mono hle1),(hr2.mono hle1),w17,(hs8.mono hle1),w18,(hr3.mono hle1),(hr4.mono hle1),rfl⟩
 refine Jb [0,4,2] [(46,U (((Kp d kn1 t).1).key)),(47,(Zv d kn1 t))] (Jl 48 (Bo (Yi (((Kp d kn1 t).1).key) ((Kp d kn1 t).2.1))) (JhQ G2 (((Kp d kn1 t).1).key) (Vm d kn1 t) ((Kp d kn1 t).2.1) (⟨rfl,hj1,hj2,hj3,hj4⟩)) (Jb [0,0] [(50,Bo (!(Yi (((Kp d kn1 t).1).key) ((Kp d kn1 t).2.1))))] (Je (Jc (Jm (!(Yi (((Kp d kn1 t).1).key) ((Kp d kn1 t).2.1))) (fun h3=>?_) (fun h3=>?_))))))
 refine Jn (Jj (Jk 6 (Jk 6 (Jk 6 (Jk 6 (Jk 6 ?_))))))
 have hf3:Wi t d=t:=by
  exact tWant2 ‹_› ‹_› ‹_›
 refine Jo [] [] (KH (Lr:=Lr) [[Sg b 0 (Kc t a5 c5 a6 c6 a7 c7 a8 c8 a9 c9 a10 c10 a11 c11 a12 c12)],r1,r2,r3,r4] (Ja hl1 hle1) ?_)
 rw [hf3];try dsimp only
 exact ⟨a5,c5,a6,c6,a7,c7,a8,c8,a9,c9,a10,c10,a11,c11,a12,c12,r1,r2,r3,r4,rfl,w13,(hs5.mono hle1),w14,w15,w16,(hs6.mono hle1),(hs7.mono hle1),(hr1.mono hle1),(hr2.mono hle1),w17,(hs8.mono hle1),w18,(hr3.mono hle1),(hr4.mono hle1),rfl⟩
 refine Jq (Jc ?_)
 refine Ya (σ:=Nat×Ba×Nat×Ba×Nat×Ba×Nat×J4) (fun q_=>(J4.le G2 q_.2.2.2.2.2.2.2)∧(rI ((Qv d kn1 t).2.1))∧(rI (((Qv d kn1 t).1).queue.most))∧(RS Q6 q_.2.2.2.2.2.2.2 q_.2.1 q_.2.2.1 (((Qv d kn1 t).1).queue.wait))∧(rI (((Qv d kn1 t).1).batch))∧(rI (((Qv d kn1 t).1).every))∧(rI (((Qv d kn1 t).1).now))∧(RS KN q_.2.2.2.2.2.2.2 q_.2.2.2.1 q_.2.2.2.2.1 (((Qv d kn1 t).1).heads))∧(RS Qw q_.2.2.2.2.2.2.2 q_.2.2.2.2.2.1 q_.2.2.2.2.2.2.1 (((Qv d kn1 t).1).books))) (fun q_=>[(0,Pt b 0),(3,Pt b1 0),(4,I ((((Js t (kn1:Int)).wanted).length:Nat):Int)),(5,Pt b3 0),(7,I ((Qv d kn1 t).2.2)),(8,Pt q_.1 0),(9,I ((Qv d kn1 t).2.1))]) (fun q_=>q_.2.2.2.2.2.2.2) (fun q_=>([Sg q_.1 0 (KW (Qv d kn1 t).1 q_.2.1 q_.2.2.1 q_.2.2.2.1 q_.2.2.2.2.1 q_.2.2.2.2.2.1 q_.2.2.2.2.2.2.1)]::[Sg b4 0 (Vm d kn1 t)]::[Sg b3 0 (KU (Kp d kn1 t).1 a14 c14)]::[Sg b 0 (Kc t a5 c5 a6 c6 a7 c7 a8 c8 a9 c9 a10 c10 a11 c11 a12 c12)]::r1::r2::r3::r4::[Sg b1 0 (W5 (YH d kn1) a1 c1 a2 c2 a3 c3 a4 c4)]::Lr)) ?_ (fun q_ hs=>?_)
 refine Kv [6,11,12] (Ws [(0,Pt b 0),(1,Pt b 0),(2,Pt b 0),(3,Pt b 0),(4,(QC t.town.clerk a5 c5 a6 c6 a7 c7)),(5,(Zv d kn1 t))] (JF [] [(0,0),(1,0),(2,0),(3,0),(4,6),(5,2)] [] [6,11] (Ha _) (Kf ?_ (Kf ?_ KY))))
 refine Jz 6 [(56,(QC t.town.clerk a5 c5 a6 c6 a7 c7)),(57,(Zv d kn1 t))] (fun X=>?_)
 refine JM 58 (JdF G2 (KW t.town.clerk a5 c5 a6 c6 a7 c7) t.town.clerk (⟨a5,c5,a6,c6,a7,c7,rfl,w13,(hs5.mono hle1),w14,w15,w16,(hs6.mono hle1),(hs7.mono hle1)⟩) (Vm d kn1 t) ((Kp d kn1 t).2.1) (⟨rfl,hj1,hj2,hj3,hj4⟩)) (fun v G7 L1 hl7 hp=>?_)
 obtain ⟨a19,c19,a20,c20,a21,c21,rfl,w81,hs15,w82,w83,w84,hs16,hs17,w85,rfl⟩:=hp
 refine JA [(6,.tuple #[(QC (Qv d kn1 t).1 a19 c19 a20 c20 a21 c21),I ((Qv d kn1 t).2.1),I ((Qv d kn1 t).2.2)]),(7,.tuple #[(QC (Qv d kn1 t).1 a19 c19 a20 c20 a21 c21),I ((Qv d kn1 t).2.1),I ((Qv d kn1 t).2.2)]),(8,(QC (Qv d kn1 t).1 a19 c19 a20 c20 a21 c21)),(9,I ((Qv d kn1 t).2.1)),(10,I ((Qv d kn1 t).2.2))] (JF [0,1,2,3,4,5] [(7,0),(8,0),(9,0),(10,0)] [] [11] (Ha _) (Kf ?_ KY))
 refine Jz 11 [] (fun X=>?_)
 refine Jv 8 #[I 0,Sl none 0 0,I 0,I 0,I 0,Sl none 0 0,Sl none 0 0] 60 (fun b13=>JA [(11,Pt b13 0)] (JF [0,1,2,3,4,5] [(7,0),(8,0),(9,0),(10,0)] [] [12] (Ha _) (Kf ?_ KY)))
 refine Jz 12 [(8,Pt b13 0),(59,(QC (Qv d kn1 t).1 a19 c19 a20 c20 a21 c21))] (fun X=>?_)
 exact KA 0 ([Sg b13 0 (KW (Qv d kn1 t).1 a19 c19 a20 c20 a21 c21)]::[Sg b4 0 (Vm d kn1 t)]::[Sg b3 0 (KU (Kp d kn1 t).1 a14 c14)]::[Sg b 0 (Kc t a5 c5 a6 c6 a7 c7 a8 c8 a9 c9 a10 c10 a11 c11 a12 c12)]::r1::r2::r3::r4::[Sg b1 0 (W5 (YH d kn1) a1 c1 a2 c2 a3 c3 a4 c4)]::Lr) (J5 [(13,I ((Qv d kn1 t).2.1)),(14,I ((Qv d kn1 t).2.2))] (Ko [0,1,2,3,4,5,7,8] [(9,0),(10,0),(13,0),(14,0)] [] [(0,Pt b 0),(3,Pt b1 0),(4,I ((((Js t (kn1:Int)).wanted).length:Nat):Int)),(5,Pt b3 0),(7,I ((Qv d kn1 t).2.2)),(8,Pt b13 0),(9,I ((Qv d kn1 t).2.1))] (Ha _) (QS (b13,a19,c19,a20,c20,a21,c21,G7) ⟨hl7,w85,w81,hs15,w82,w83,w84,hs16,hs17⟩)))
 refine Jz 11 [] (fun X=>?_)
 refine Jv 8 #[I 0,Sl none 0 0,I 0,I 0,I 0,Sl none 0 0,Sl none 0 0] 60 (fun b14=>JA [(11,Pt b14 0)] (JF [] [(0,0),(1,0),(2,0),(3,0),(4,8),(5,4)] [] [6] (Ha _) (Kf ?_ KY)))
 refine Jz 6 [(56,(QC t.town.clerk a5 c5 a6 c6 a7 c7)),(57,(Zv d kn1 t))] (fun X=>?_)
 refine JM 58 (JdF G2 (KW t.town.clerk a5 c5 a6 c6 a7 c7) t.town.clerk (⟨a5,c5,a6,c6,a7,c7,rfl,w13,(hs5.mono hle1),w14,w15,w16,(hs6.mono hle1),(hs7.mono hle1)⟩) (Vm d kn1 t) ((Kp d kn1 t).2.1) (⟨rfl,hj1,hj2,hj3,hj4⟩)) (fun v G8 L1 hl8 hp=>?_)
 obtain ⟨a22,c22,a23,c23,a24,c24,rfl,w86,hs18,w87,w88,w89,hs19,hs20,w90,rfl⟩:=hp
 refine JA [(6,.tuple #[(QC (Qv d kn1 t).1 a22 c22 a23 c23 a24 c24),I ((Qv d kn1 t).2.1),I ((Qv d kn1 t).2.2)]),(7,.tuple #[(QC (Qv d kn1 t).1 a22 c22 a23 c23 a24 c24),I ((Qv d kn1 t).2.1),I ((Qv d kn1 t).2.2)]),(8,(QC (Qv d kn1 t).1 a22 c22 a23 c23 a24 c24)),(9,I ((Qv d kn1 t).2.1)),(10,I ((Qv d kn1 t).2.2))] (JF [0,1,2,3,4,5] [(7,0),(8,0),(9,0),(10,0)] [] [12] (Ha _) (Kf ?_ KY))
 refine Jz 12 [(8,Pt b14 0),(59,(QC (Qv d kn1 t).1 a22 c22 a23 c23 a24 c24))] (fun X=>?_)
 exact KA 0 ([Sg b14 0 (KW (Qv d kn1 t).1 a22 c22 a23 c23 a24 c24)]::[Sg b4 0 (Vm d kn1 t)]::[Sg b3 0 (KU (Kp d kn1 t).1 a14 c14)]::[Sg b 0 (Kc t a5 c5 a6 c6 a7 c7 a8 c8 a9 c9 a10 c10 a11 c11 a12 c12)]::r1::r2::r3::r4::[Sg b1 0 (W5 (YH d kn1) a1 c1 a2 c2 a3 c3 a4 c4)]::Lr) (J5 [(13,I ((Qv d kn1 t).2.1)),(14,I ((Qv d kn1 t).2.2))] (Ko [0,1,2,3,4,5,7,8] [(9,0),(10,0),(13,0),(14,0)] [] [(0,Pt b 0),(3,Pt b1 0),(4,I ((((Js t (kn1:Int)).wanted).length:Nat):Int)),(5,Pt b3 0),(7,I ((Qv d kn1 t).2.2)),(8,Pt b14 0),(9,I ((Qv d kn1 t).2.1))] (Ha _) (QS (b14,a22,c22,a23,c23,a24,c24,G8) ⟨hl8,w90,w86,hs18,w87,w88,w89,hs19,hs20⟩)))
 obtain ⟨b13,a19,c19,a20,c20,a21,c21,G7⟩:=q_
 obtain ⟨hle2,hj13,hj14,hj15,hj16,hj17,hj18,hj19,hj20⟩:=hs
 dsimp only at hle2 hj13 hj14 hj15 hj16 hj17 hj18 hj19 hj20
 dsimp only
 refine Jf (Jg [0,0] [(63,Bo (!decide ((Qv d kn1 t).2.2=0)))] (Jm (!decide ((Qv d kn1 t).2.2=0)) (fun h4=>?_) (fun h4=>?_)))
 refine Jn (Jj (Jk 7 (Jk 7 (Jk 7 (Jk 7 (Jk 7 ?_))))))
 have hf4:Wi t d=t:=by
  exact tWant3 ‹_› ‹_› ‹_›
 refine Jo [] [] (KH (Lr:=Lr) [[Sg b 0 (Kc t a5 c5 a6 c6 a7 c7 a8 c8 a9 c9 a10 c10 a11 c11 a12 c12)],r1,r2,r3,r4] (Ja (Ja hl1 hle1) hle2) ?_)
 rw [hf4];try dsimp only
 exact ⟨a5,c5,a6,c6,a7,c7,a8,c8,a9,c9,a10,c10,a11,c11,a12,c12,r1,r2,r3,r4,rfl,w13,(hs5.mono (Ja hle1 hle2)),w14,w15,w16,(hs6.mono (Ja hle1 hle2)),(hs7.mono (Ja hle1 hle2)),(hr1.mono (Ja hle1 hle2)),(hr2.mono (Ja hle1 hle2)),w17,(hs8.mono (Ja hle1 hle2)),w18,(hr3.mono (Ja hle1 hle2)),(hr4.mono (Ja hle1 hle2)),rfl⟩
 refine Jq (Jc (Jf (Kv [11,15] (Ws [(0,Pt b 0),(1,Pt b 0),(2,Pt b 0),(3,Pt b 7),(4,Sl a8 t.town.owners.length c8),(5,Pt b1 1),(6,I (kn1:Int)),(7,Pt b 0),(8,(KC (Kp d kn1 t).1 a14 c14)),(9,(QC (Qv d kn1 t).1 a19 c19 a20 c20 a21 c21)),(10,Pt b2 (o1+kn1*8))] (JF [] [(0,0),(1,0),(2,0),(3,0),(4,8),(5,0),(6,18),(7,0),(8,6),(9,2)] [10] [11] (Kf ?_ KY) (Kf ?_ KY))))))
 refine Jr 10 74 (Pt b2 (o1+kn1*8)) [(68,Sl a8 t.town.owners.length c8),(70,I (kn1:Int))] (fun X=>?_)
 exact Qq (b:=b2) (off:=o1) (len:=t.town.owners.length) (cap:=c8) (ik:=.i64) 74 76 8 kn1 ha1 Kd Jp
 refine Jz 11 [(72,(KC (Kp d kn1 t).1 a14 c14)),(74,Pt b2 (o1+kn1*8))] (fun X=>?_)
 refine Yx (b:=b2) (off:=o1) 4 (hr1.mono (Ja hle1 hle2)) kn1 ((Kp d kn1 t).1) ha1 Kd (KC (Kp d kn1 t).1 a14 c14) (KU (Kp d kn1 t).1 a14 c14) ⟨a14,c14,rfl,hj5,hj6,hj7,hj8,hj9,hj10,(hj11.mono hle2),hj12⟩ (fun r5 hr5=>?_)
 have e2:t.town.owners.length=(t.town.owners.set kn1 ((Kp d kn1 t).1)).length:=(Hw ..).symm
 refine J5 [(12,Pt b 0),(13,Pt b 0),(14,Pt b 0)] (JF [0,1,2,3,4,5,6,8,10] [(7,0),(9,2),(12,0),(13,0),(14,0)] [] [15] (Ha _) (Kf ?_ KY))
 refine Jz 15 [(73,(QC (Qv d kn1 t).1 a19 c19 a20 c20 a21 c21)),(77,Pt b 0)] (fun X=>?_)
 refine KA 3 ([Sg b13 0 (KW (Qv d kn1 t).1 a19 c19 a20 c20 a21 c21)]::[Sg b4 0 (Vm d kn1 t)]::[Sg b3 0 (KU (Kp d kn1 t).1 a14 c14)]::[Sg b 0 (Kc (⟨(⟨(Qv d kn1 t).1,t.town.owners,t.town.polls,t.town.net⟩:Wj),t.reach,t.fates,t.events⟩:JI) a19 c19 a20 c20 a21 c21 a8 c8 a9 c9 a10 c10 a11 c11 a12 c12)]::r5::r2::r3::r4::[Sg b1 0 (W5 (YH d kn1) a1 c1 a2 c2 a3 c3 a4 c4)]::Lr) (J5 [] (Ko [0,1,2,3,4,5,6,7,8,9,10,12,13,14] [] [] [(0,Pt b 0),(3,Pt b1 0),(4,I ((((Js t (kn1:Int)).wanted).length:Nat):Int)),(9,I ((Qv d kn1 t).2.1))] (Ha _) (JkW (fr':=[(0,Pt b 0),(3,Pt b1 0),(4,I ((((Js t (kn1:Int)).wanted).length:Nat):Int)),(9,I ((KB t.town.clerk ((JP (Js t (kn1:Int)) d.value).2.1)).2.1))]) (L':=([Sg b13 0 [I (((KB t.town.clerk ((JP (Js t (kn1:Int)) d.value).2.1)).1).queue.most),Sl a19 ((((KB t.town.clerk ((JP (Js t (kn1:Int)) d.value).2.1)).1).queue.wait).length) c19,I (((KB t.town.clerk ((JP (Js t (kn1:Int)) d.value).2.1)).1).batch),I (((KB t.town.clerk ((JP (Js t (kn1:Int)) d.value).2.1)).1).every),I (((KB t.town.clerk ((JP (Js t (kn1:Int)) d.value).2.1)).1).now),Sl a20 ((((KB t.town.clerk ((JP (Js t (kn1:Int)) d.value).2.1)).1).heads).length) c20,Sl a21 ((((KB t.town.clerk ((JP (Js t (kn1:Int)) d.value).2.1)).1).books).length) c21]]::[Sg b4 0 [Sr (((JP (Js t (kn1:Int)) d.value).2.1).name),Sr (((JP (Js t (kn1:Int)) d.value).2.1).value),U (((JP (Js t (kn1:Int)) d.value).2.1).n),U (((JP (Js t (kn1:Int)) d.value).2.1).tag)]]::[Sg b3 0 [Sr (((JP (Js t (kn1:Int)) d.value).1).name),U (((JP (Js t (kn1:Int)) d.value).1).key),I (((JP (Js t (kn1:Int)) d.value).1).head.epoch),U (((JP (Js t (kn1:Int)) d.value).1).head.root),U (((JP (Js t (kn1:Int)) d.value).1).head.prev),I (((JP (Js t (kn1:Int)) d.value).1).head.at_),Sl a14 ((((JP (Js t (kn1:Int)) d.value).1).wanted).length) c14,I (((JP (Js t (kn1:Int)) d.value).1).had)]]::[Sg b 0 [I (((KB t.town.clerk ((JP (Js t (kn1:Int)) d.value).2.1)).1).queue.most),Sl a19 ((((KB t.town.clerk ((JP (Js t (kn1:Int)) d.value).2.1)).1).queue.wait).length) c19,I (((KB t.town.clerk ((JP (Js t (kn1:Int)) d.value).2.1)).1).batch),I (((KB t.town.clerk ((JP (Js t (kn1:Int)) d.value).2.1)).1).every),I (((KB t.town.clerk ((JP (Js t (kn1:Int)) d.value).2.1)).1).now),Sl a20 ((((KB t.town.clerk ((JP (Js t (kn1:Int)) d.value).2.1)).1).heads).length) c20,Sl a21 ((((KB t.town.clerk ((JP (Js t (kn1:Int)) d.value).2.1)).1).books).length) c21,Sl a8 ((t.town.owners.set kn1 ((JP (Js t (kn1:Int)) d.value).1)).length) c8,Sl a9 t.town.polls.length c9,I t.town.net.now,Sl a10 t.town.net.way.length c10,I t.reach,Sl a11 t.fates.length c11,Sl a12 t.events.length c12]]::r5::r2::r3::r4::[Sg b1 0 [I d.kind,I (kn1:Int),Sr d.value,Sl a1 d.fates.length c1,I d.letter.to_,I d.letter.from_,I d.letter.since,I d.letter.due,Sl a2 d.letter.heads.length c2,I d.letter.reply.head.epoch,U d.letter.reply.head.root,U d.letter.reply.head.prev,I d.letter.reply.head.at_,Sr d.letter.reply.proof.name,Sl a3 d.letter.reply.proof.entries.length c3,Sl a4 d.letter.reply.proof.sides.length c4]]::Lr)) (by rfl) (by (simp only [Jix,KW,W5,KU,Kc,Jj2,QC,Jfz,KC,e2];first | done | rfl)) (Jc (Jd (Jb [0,0,18,0,0] [(78,Pt b 0),(80,I (kn1:Int)),(81,I ((((Js t (kn1:Int)).wanted).length:Nat):Int)),(82,I ((Qv d kn1 t).2.1))] (Jw 7 (Jw 7 (Jw 7 (Jw 7 (Jw 7 ?_)))))))))))
 refine Qu (Ls:=[[Sg b 0 (Kc (⟨(⟨(Qv d kn1 t).1,(t.town.owners.set kn1 ((Kp d kn1 t).1)),t.town.polls,t.town.net⟩:Wj),t.reach,t.fates,t.events⟩:JI) a19 c19 a20 c20 a21 c21 a8 c8 a9 c9 a10 c10 a11 c11 a12 c12)],r5,r2,r3,r4]) (Lr:=([Sg b13 0 (KW (Qv d kn1 t).1 a19 c19 a20 c20 a21 c21)]::[Sg b4 0 (Vm d kn1 t)]::[Sg b3 0 (KU (Kp d kn1 t).1 a14 c14)]::[Sg b1 0 (W5 (YH d kn1) a1 c1 a2 c2 a3 c3 a4 c4)]::Lr)) 83 (Jel G7 b (JkF d kn1 t) a19 c19 a20 c20 a21 c21 a8 c8 a9 c9 a10 c10 a11 c11 a12 c12 r5 r2 r3 r4 hj14 hj15 hj16 hj17 hj18 hj19 hj20 hr5 (hr2.mono (Ja hle1 hle2)) w17 (hs8.mono (Ja hle1 hle2)) w18 (hr3.mono (Ja hle1 hle2)) (hr4.mono (Ja hle1 hle2)) 1 Kd (kn1:Int) Kd ((((Js t (kn1:Int)).wanted).length:Nat):Int) (by have q_:=(show RS ES _ _ _ (Js t (kn1:Int)).wanted by assumption).le;have p_:=(show RS ES _ _ _ (Js t (kn1:Int)).wanted by assumption).max;omega) ((Qv d kn1 t).2.1) hj13 ‹_›) (fun v G9 L1 hl9 hp=>?_)
 obtain ⟨a25,c25,a26,c26,a27,c27,a28,c28,a29,c29,a30,c30,a31,c31,a32,c32,r6,r7,r8,r9,rfl,w91,hs21,w92,w93,w94,hs22,hs23,hr6,hr7,w95,hs24,w96,hr8,hr9,rfl⟩:=hp
 refine Je (Jk 4 (Jk 4 (Jk 4 (Jk 4 (Jk 4 ?_)))))
 have hf5:Wi t d=(Q8 (JkF d kn1 t) 1 (kn1:Int) ((((Js t (kn1:Int)).wanted).length:Nat):Int) ((Qv d kn1 t).2.1)):=by
  exact tWant4 ‹_› rfl ‹_› ‹_› ‹_› ‹_›
 refine ZN [] [] (KH (Lr:=Lr) [[Sg b 0 (Kc (Q8 (JkF d kn1 t) 1 (kn1:Int) ((((Js t (kn1:Int)).wanted).length:Nat):Int) ((Qv d kn1 t).2.1)) a25 c25 a26 c26 a27 c27 a28 c28 a29 c29 a30 c30 a31 c31 a32 c32)],r6,r7,r8,r9] (Ja (Ja (Ja hl1 hle1) hle2) hl9) ?_)
 rw [hf5];try dsimp only
 exact ⟨a25,c25,a26,c26,a27,c27,a28,c28,a29,c29,a30,c30,a31,c31,a32,c32,r6,r7,r8,r9,rfl,w91,hs21,w92,w93,w94,hs22,hs23,hr6,hr7,w95,hs24,w96,hr8,hr9,rfl⟩
end Go.Proofs.YteaampgpgokjmaaGreatDoor
